import PyProof.Rows.All
import Wide.All
import OpenK.AllK
import Wide.FinOn
import HandS.ForMost
import HandS.ForExc
import HandS.Evl
import HandS.Walk
import HandS.Zip
import HandS.IsInst
import HandS.TupAny
import HandS.Steps
import HandS.Iter
import HandS.Text
import HandS.Comp
import HandS.ExcInit
import HandS.ExcField
import HandS.ExcBuiltin
import HandS.EndBits
import HandS.Small
import HandS.Flow
import KE.KDictPairs
import HandS.ListItems
import PyProof.TupleOfSeq
import PyProof.RulesMatchSeq
import PyProof.Rows.MatchSeqLen
import PyProof.EnumMake
import PyProof.Draws
import KE.GoesMore
import HandS.Deep
import HandS.TupMul
import KE.GoesZip
import HandS.Defaults
import HandS.More
import HandS.ExcOwn
import HandS.ForDict
import HandS.Style
import PySem.Challenge.RW_gleanworld_k96_what_is_a_teller
set_option Elab.async false
set_option linter.all false
set_option maxRecDepth 100000
set_option maxHeartbeats 2000000
/-! Pd: immutable data over the abstract heap, and what expressions evaluate to as data. -/
namespace Pd
open PySem L2 Evl

mutual
/-- v is data d in H: tuples and lists are tracked there -/
inductive Im (H : Hp) : V → PyData → Prop
  | non : Im H .non .none
  | bl (b : Bool) : Im H (.bl b) (.bool b)
  | int (i : Int) : Im H (.int i) (.int i)
  | str (x : Str) : Im H (.str x) (.str x)
  | lst {a : Addr} {xs : List V} {ds : List PyData} : H a = some (.lst xs) → Ims H xs ds → Im H (.ref a) (.list ds)
  | tup {a : Addr} {xs : List V} {ds : List PyData} : H a = some (.tup xs) → Ims H xs ds → Im H (.ref a) (.tuple ds)
inductive Ims (H : Hp) : List V → List PyData → Prop
  | nil : Ims H [] []
  | cons {v : V} {vs : List V} {d : PyData} {ds : List PyData} : Im H v d → Ims H vs ds → Ims H (v :: vs) (d :: ds)
end

mutual
theorem Im.mono {H H' : Hp} (e : Ex H H') : ∀ {d : PyData} {v : V}, Im H v d → Im H' v d
  | .none, _, h => by cases h; exact .non
  | .bool _, _, h => by cases h; exact .bl _
  | .int _, _, h => by cases h; exact .int _
  | .str _, _, h => by cases h; exact .str _
  | .list ds, _, h => by cases h with | lst h1 h2 => exact .lst (e _ _ h1) (Ims.mono e h2)
  | .tuple ds, _, h => by cases h with | tup h1 h2 => exact .tup (e _ _ h1) (Ims.mono e h2)
  | .dict _, _, h => by cases h
theorem Ims.mono {H H' : Hp} (e : Ex H H') : ∀ {ds : List PyData} {vs : List V}, Ims H vs ds → Ims H' vs ds
  | [], _, h => by cases h; exact .nil
  | d :: ds, _, h => by cases h with | cons h1 h2 => exact .cons (Im.mono e h1) (Ims.mono e h2)
end

mutual
/-- no list within -/
def still : PyData → Bool
  | .list _ => false
  | .dict _ => false
  | .tuple ds => stills ds
  | _ => true
def stills : List PyData → Bool
  | [] => true
  | d :: ds => still d && stills ds
end
/-- the tuples stay -/
def Tx (H H' : Hp) : Prop := ∀ a xs, H a = some (.tup xs) → H' a = some (.tup xs)
theorem Tx.refl (H : Hp) : Tx H H := fun _ _ h => h
theorem Tx.trans {H H1 H2 : Hp} (a : Tx H H1) (b : Tx H1 H2) : Tx H H2 := fun x o h => b x o (a x o h)
theorem Tx.of {H H' : Hp} (e : Ex H H') : Tx H H' := fun a xs h => e a _ h
mutual
theorem Im.tx {H H' : Hp} (e : Tx H H') : ∀ {d : PyData} {v : V}, still d = true → Im H v d → Im H' v d
  | .none, _, _, h => by cases h; exact .non
  | .bool _, _, _, h => by cases h; exact .bl _
  | .int _, _, _, h => by cases h; exact .int _
  | .str _, _, _, h => by cases h; exact .str _
  | .list ds, _, s, h => by cases s
  | .tuple ds, _, s, h => by cases h with | tup h1 h2 => exact .tup (e _ _ h1) (Ims.tx e s h2)
  | .dict _, _, _, h => by cases h
theorem Ims.tx {H H' : Hp} (e : Tx H H') : ∀ {ds : List PyData} {vs : List V}, stills ds = true → Ims H vs ds → Ims H' vs ds
  | [], _, _, h => by cases h; exact .nil
  | d :: ds, _, s, h => by
    cases h with
    | cons h1 h2 =>
      have s' : still d = true ∧ stills ds = true := Bool.and_eq_true_iff.mp s
      exact .cons (Im.tx e s'.1 h1) (Ims.tx e s'.2 h2)
end

theorem Ims.length {H : Hp} : ∀ {ds : List PyData} {vs : List V}, Ims H vs ds → vs.length = ds.length
  | [], _, h => by cases h; rfl
  | d :: ds, _, h => by cases h with | cons h1 h2 => simp [Ims.length h2]
theorem Ims.get {H : Hp} : ∀ {ds : List PyData} {vs : List V} {i : Nat} {v : V}, Ims H vs ds → vs[i]? = some v → ∃ d, ds[i]? = some d ∧ Im H v d
  | [], _, _, _, h, e => by cases h; simp at e
  | d :: ds, _, 0, v, h, e => by cases h with | cons h1 h2 => simp at e; subst e; exact ⟨d, rfl, h1⟩
  | d :: ds, _, i + 1, v, h, e => by cases h with | cons h1 h2 => exact Ims.get (i := i) h2 (by simpa using e)
theorem Ims.getD {H : Hp} : ∀ {ds : List PyData} {vs : List V} {i : Nat} {d : PyData}, Ims H vs ds → ds[i]? = some d → ∃ v, vs[i]? = some v ∧ Im H v d
  | [], _, _, _, h, e => by simp at e
  | d :: ds, _, 0, v, h, e => by cases h with | cons h1 h2 => simp at e; subst e; exact ⟨_, rfl, h1⟩
  | d :: ds, _, i + 1, v, h, e => by cases h with | cons h1 h2 => exact Ims.getD (i := i) h2 (by simpa using e)
theorem Ims.append {H : Hp} : ∀ {ds es : List PyData} {vs ws : List V}, Ims H vs ds → Ims H ws es → Ims H (vs ++ ws) (ds ++ es)
  | [], _, _, _, h, k => by cases h; exact k
  | d :: ds, _, _, _, h, k => by cases h with | cons h1 h2 => exact .cons h1 (Ims.append h2 k)
theorem Ims.take {H : Hp} : ∀ {ds : List PyData} {vs : List V} (n : Nat), Ims H vs ds → Ims H (vs.take n) (ds.take n)
  | _, _, 0, _ => .nil
  | [], _, n + 1, h => by cases h; exact .nil
  | d :: ds, _, n + 1, h => by cases h with | cons h1 h2 => exact .cons h1 (Ims.take n h2)
theorem Ims.drop {H : Hp} : ∀ {ds : List PyData} {vs : List V} (n : Nat), Ims H vs ds → Ims H (vs.drop n) (ds.drop n)
  | _, _, 0, h => h
  | [], _, n + 1, h => by cases h; exact .nil
  | d :: ds, _, n + 1, h => by cases h with | cons h1 h2 => exact Ims.drop n h2

/-- inversions -/
theorem Im.s {H : Hp} {v : V} {x : Str} (h : Im H v (.str x)) : v = .str x := by cases h; rfl
theorem Im.i {H : Hp} {v : V} {x : Int} (h : Im H v (.int x)) : v = .int x := by cases h; rfl
theorem Im.b {H : Hp} {v : V} {x : Bool} (h : Im H v (.bool x)) : v = .bl x := by cases h; rfl
theorem Im.n {H : Hp} {v : V} (h : Im H v .none) : v = .non := by cases h; rfl
theorem Im.t {H : Hp} {v : V} {ds : List PyData} (h : Im H v (.tuple ds)) : ∃ a xs, v = .ref a ∧ H a = some (.tup xs) ∧ Ims H xs ds := by cases h with | tup h1 h2 => exact ⟨_, _, rfl, h1, h2⟩
theorem Im.l {H : Hp} {v : V} {ds : List PyData} (h : Im H v (.list ds)) : ∃ a xs, v = .ref a ∧ H a = some (.lst xs) ∧ Ims H xs ds := by cases h with | lst h1 h2 => exact ⟨_, _, rfl, h1, h2⟩
theorem Ims.strs {H : Hp} : ∀ {ss : List Str} {vs : List V}, Ims H vs (ss.map PyData.str) → vs = ss.map V.str
  | [], _, h => by cases h; rfl
  | s :: ss, _, h => by cases h with | cons h1 h2 => rw [h1.s, Ims.strs h2]; rfl
theorem Ims.bls {H : Hp} : ∀ {ss : List Bool} {vs : List V}, Ims H vs (ss.map PyData.bool) → vs = ss.map V.bl
  | [], _, h => by cases h; rfl
  | s :: ss, _, h => by cases h with | cons h1 h2 => rw [h1.b, Ims.bls h2]; rfl
theorem Ims.ofStrs {H : Hp} : ∀ ss : List Str, Ims H (ss.map V.str) (ss.map PyData.str)
  | [] => .nil
  | s :: ss => .cons (.str s) (Ims.ofStrs ss)

mutual
theorem Im.dp {K : PySem.W.Frag} {H : Hp} : ∀ {d : PyData} {v : V}, Im H v d → Dp K H v d
  | .none, _, h => by cases h; exact .non
  | .bool _, _, h => by cases h; exact .bl _
  | .int _, _, h => by cases h; exact .int _
  | .str _, _, h => by cases h; exact .str _
  | .list ds, _, h => by cases h with | lst h1 h2 => exact .lst (SqL.of h1) (Ims.dp h2)
  | .tuple ds, _, h => by cases h with | tup h1 h2 => exact .tup (SqT.of h1) (Ims.dp h2)
  | .dict _, _, h => by cases h
theorem Ims.dp {K : PySem.W.Frag} {H : Hp} : ∀ {ds : List PyData} {vs : List V}, Ims H vs ds → DpAll K H vs ds
  | [], _, h => by cases h; exact .nil
  | d :: ds, _, h => by cases h with | cons h1 h2 => exact .cons (Im.dp h1) (Ims.dp h2)
end

/-! ### what evaluates to what data -/
def EvD (te : TE) (σ : L2.St) (H : Hp) (d : PyData) : Prop := ∀ H1, Ex H H1 → ∀ Q : VK, (∀ v H2, Ex H1 H2 → Im H2 v d → Q v H2) → te σ H1 Q
/-- a new list -/
def EvN (te : TE) (σ : L2.St) (H : Hp) (ds : List PyData) : Prop := ∀ H1, Ex H H1 → ∀ Q : VK, (∀ p xs H2, H1 p = none → Ex H1 H2 → H2 p = some (.lst xs) → Ims H2 xs ds → Q (.ref p) H2) → te σ H1 Q
def EvDs (ta : TA) (σ : L2.St) (H : Hp) (ds : List PyData) : Prop := ∀ H1, Ex H H1 → ∀ Q : List V → Hp → Prop, (∀ vs H2, Ex H1 H2 → Ims H2 vs ds → Q vs H2) → ta σ H1 Q

section
variable {K : PySem.W.Frag} {σ : L2.St} {H H' : Hp} {ta tb te tx tl : TE} {t u : TT} {x y z v : V} {d d' e' : PyData} {ds es : List PyData}
theorem EvD.mono (e : Ex H H') (h : EvD te σ H d) : EvD te σ H' d := fun H1 a Q q => h H1 (e.trans a) Q q
theorem EvN.mono (e : Ex H H') (h : EvN te σ H ds) : EvN te σ H' ds := fun H1 a Q q => h H1 (e.trans a) Q q
theorem EvDs.mono {ta : TA} (e : Ex H H') (h : EvDs ta σ H ds) : EvDs ta σ H' ds := fun H1 a Q q => h H1 (e.trans a) Q q
theorem EvN.toD (h : EvN te σ H ds) : EvD te σ H (.list ds) := fun H1 a Q q => h H1 a Q fun p xs H2 _ e1 e2 e3 => q _ H2 e1 (.lst e2 e3)
theorem EvN.is {es : List PyData} (h : EvN te σ H ds) (e : ds = es) : EvN te σ H es := e ▸ h
theorem EvD.is (h : EvD te σ H d) (e : d = d') : EvD te σ H d' := e ▸ h
theorem ed_var {i : Nat} (h : σ[i]? = some (some v)) (hd : Im H v d) : EvD (tVar i) σ H d := fun H1 e _ q => ⟨v, h, q v H1 (Ex.refl H1) (hd.mono e)⟩
theorem ed_c (h : Im H v d) : EvD (tC v) σ H d := fun H1 e _ q => q v H1 (Ex.refl H1) (h.mono e)
theorem ed_i (i : Int) : EvD (tC (.int i)) σ H (.int i) := ed_c (.int i)
theorem ed_s (i : Str) : EvD (tC (.str i)) σ H (.str i) := ed_c (.str i)
theorem ed_b (i : Bool) : EvD (tC (.bl i)) σ H (.bool i) := ed_c (.bl i)
theorem ed_n : EvD (tC .non) σ H .none := ed_c .non
theorem ea0 : EvDs tNil σ H [] := fun H1 _ _ q => q _ H1 (Ex.refl H1) .nil
theorem ea1 {tr : TA} (h : EvD ta σ H d) (hr : EvDs tr σ H ds) : EvDs (tCons ta tr) σ H (d :: ds) := fun H1 e _ q =>
  h H1 e _ fun v H2 e2 i2 => hr H2 (e.trans e2) _ fun vs H3 e3 i3 => q _ H3 (e2.trans e3) (.cons (i2.mono e3) i3)
theorem ed_tup {ta : TA} (h : EvDs ta σ H ds) (hl : ds.length ≤ 100000) : EvD (tTup ta) σ H (.tuple ds) := fun H1 e _ q =>
  h H1 e _ fun vs H2 e2 i2 => ⟨sz_of (by rw [i2.length]; exact hl), fun p hp => q _ _ (e2.trans (Ex.new hp)) (.tup upd_same (i2.mono (Ex.new hp)))⟩
theorem en_lst {ta : TA} (h : EvDs ta σ H ds) (hl : ds.length ≤ 100000) : EvN (tLst ta) σ H ds := fun H1 e _ q =>
  h H1 e _ fun vs H2 e2 i2 => ⟨sz_of (by rw [i2.length]; exact hl), fun p hp => q _ _ _ (fresh_back e2 hp) (e2.trans (Ex.new hp)) upd_same (i2.mono (Ex.new hp))⟩
/-- an operator on two values -/
theorem ed_op {r : R2} (ha : EvD ta σ H d) (hb : EvD tb σ H e') (hr : ∀ x y H1, Ex H H1 → Im H1 x d → Im H1 y e' → ∀ Q : VK, (∀ v H2, Ex H1 H2 → Im H2 v d' → Q v H2) → r x y H1 Q) : EvD (tOp r ta tb) σ H d' := fun H1 e Q q =>
  ha H1 e _ fun x H2 e2 i2 => hb H2 (e.trans e2) _ fun y H3 e3 i3 => hr x y H3 ((e.trans e2).trans e3) (i2.mono e3) i3 Q fun v H4 e4 i4 => q v H4 ((e2.trans e3).trans e4) i4
theorem en_op {r : R2} (ha : EvD ta σ H d) (hb : EvD tb σ H e') (hr : ∀ x y H1, Ex H H1 → Im H1 x d → Im H1 y e' → ∀ Q : VK, (∀ p xs H2, H1 p = none → Ex H1 H2 → H2 p = some (.lst xs) → Ims H2 xs ds → Q (.ref p) H2) → r x y H1 Q) : EvN (tOp r ta tb) σ H ds := fun H1 e Q q =>
  ha H1 e _ fun x H2 e2 i2 => hb H2 (e.trans e2) _ fun y H3 e3 i3 => hr x y H3 ((e.trans e2).trans e3) (i2.mono e3) i3 Q fun p xs H4 n4 e4 i4 i5 => q p xs H4 (fresh_back (e2.trans e3) n4) ((e2.trans e3).trans e4) i4 i5
/-- ints -/
theorem ed_I0 {g : Int → Int → Int} {i j : Int} (ha : EvD ta σ H (.int i)) (hb : EvD tb σ H (.int j)) : EvD (tOp (rI0 fun i j => .int (g i j)) ta tb) σ H (.int (g i j)) :=
  ed_op ha hb fun x y H1 e hx hy Q q => ⟨i, j, hx.i, hy.i, q _ H1 (Ex.refl H1) (.int _)⟩
theorem ed_B0 {g : Int → Int → Bool} {i j : Int} (ha : EvD ta σ H (.int i)) (hb : EvD tb σ H (.int j)) : EvD (tOp (rI0 fun i j => .bl (g i j)) ta tb) σ H (.bool (g i j)) :=
  ed_op ha hb fun x y H1 e hx hy Q q => ⟨i, j, hx.i, hy.i, q _ H1 (Ex.refl H1) (.bl _)⟩
theorem ed_I {C : Int → Int → Prop} {g : Int → Int → Int} {i j : Int} (ha : EvD ta σ H (.int i)) (hb : EvD tb σ H (.int j)) (hc : C i j) : EvD (tOp (rI C fun i j => .int (g i j)) ta tb) σ H (.int (g i j)) :=
  ed_op ha hb fun x y H1 e hx hy Q q => ⟨i, j, hx.i, hy.i, hc, q _ H1 (Ex.refl H1) (.int _)⟩
/-- == of two texts, two ints -/
theorem ed_eqS {a b : Str} (ha : EvD ta σ H (.str a)) (hb : EvD tb σ H (.str b)) : EvD (tOp rEq ta tb) σ H (.bool (decide (a = b))) :=
  ed_op ha hb fun x y H1 e hx hy Q q => by
    rw [hx.s, hy.s]
    refine ⟨rfl, ?_⟩
    have h := q _ H1 (Ex.refl H1) (.bl (decide (a = b)))
    have e2 : decide (V.str a = V.str b) = decide (a = b) := by by_cases c : a = b <;> simp [c]
    rw [e2]; exact h
theorem ed_neS {a b : Str} (ha : EvD ta σ H (.str a)) (hb : EvD tb σ H (.str b)) : EvD (tOp rNe ta tb) σ H (.bool (!decide (a = b))) :=
  ed_op ha hb fun x y H1 e hx hy Q q => by
    rw [hx.s, hy.s]
    refine ⟨rfl, ?_⟩
    have h := q _ H1 (Ex.refl H1) (.bl (!decide (a = b)))
    have e2 : decide (V.str a = V.str b) = decide (a = b) := by by_cases c : a = b <;> simp [c]
    rw [e2]; exact h
theorem ed_eqI {a b : Int} (ha : EvD ta σ H (.int a)) (hb : EvD tb σ H (.int b)) : EvD (tOp rEq ta tb) σ H (.bool (decide (a = b))) :=
  ed_op ha hb fun x y H1 e hx hy Q q => by
    rw [hx.i, hy.i]
    refine ⟨rfl, ?_⟩
    have h := q _ H1 (Ex.refl H1) (.bl (decide (a = b)))
    have e2 : decide (V.int a = V.int b) = decide (a = b) := by by_cases c : a = b <;> simp [c]
    rw [e2]; exact h
theorem ed_neI {a b : Int} (ha : EvD ta σ H (.int a)) (hb : EvD tb σ H (.int b)) : EvD (tOp rNe ta tb) σ H (.bool (!decide (a = b))) :=
  ed_op ha hb fun x y H1 e hx hy Q q => by
    rw [hx.i, hy.i]
    refine ⟨rfl, ?_⟩
    have h := q _ H1 (Ex.refl H1) (.bl (!decide (a = b)))
    have e2 : decide (V.int a = V.int b) = decide (a = b) := by by_cases c : a = b <;> simp [c]
    rw [e2]; exact h
theorem ed_neB {a b : Bool} (ha : EvD ta σ H (.bool a)) (hb : EvD tb σ H (.bool b)) : EvD (tOp rNe ta tb) σ H (.bool (!decide (a = b))) :=
  ed_op ha hb fun x y H1 e hx hy Q q => by
    rw [hx.b, hy.b]
    refine ⟨rfl, ?_⟩
    have h := q _ H1 (Ex.refl H1) (.bl (!decide (a = b)))
    have e2 : decide (V.bl a = V.bl b) = decide (a = b) := by by_cases c : a = b <;> simp [c]
    rw [e2]; exact h
/-- == of data -/
theorem ed_eqD {d e' : PyData} (ha : EvD ta σ H d) (hb : EvD tb σ H e') (s1 : SeqAt.shaped d = true) (s2 : SeqAt.shaped e' = true) : EvD (tOp (rEqD K) ta tb) σ H (.bool (PyData.eqv d e')) :=
  ed_op ha hb fun x y H1 e hx hy Q q => ⟨d, e', hx.dp, hy.dp, s1, s2, q _ H1 (Ex.refl H1) (.bl _)⟩
theorem ed_neD {d e' : PyData} (ha : EvD ta σ H d) (hb : EvD tb σ H e') (s1 : SeqAt.shaped d = true) (s2 : SeqAt.shaped e' = true) : EvD (tOp (rNeD K) ta tb) σ H (.bool (!PyData.eqv d e')) :=
  ed_op ha hb fun x y H1 e hx hy Q q => ⟨d, e', hx.dp, hy.dp, s1, s2, q _ H1 (Ex.refl H1) (.bl _)⟩
/-- is None -/
def rIsN' : R2 := fun x y H Q => y = .non ∧ Q (.bl (decide (x = .non))) H
theorem ed_isN (ha : EvD ta σ H d) : EvD (tOp (fun x y H Q => y = .non ∧ Q (.bl (decide (x = .non))) H) ta (tC .non)) σ H (.bool (match d with | .none => true | _ => false)) :=
  ed_op ha ed_n fun x y H1 e hx hy Q q => ⟨hy.n, by
    cases hx <;> exact q _ H1 (Ex.refl H1) (.bl _)⟩
theorem ed_notN (ha : EvD ta σ H d) : EvD (tOp (fun x y H Q => y = .non ∧ Q (.bl (!decide (x = .non))) H) ta (tC .non)) σ H (.bool (match d with | .none => false | _ => true)) :=
  ed_op ha ed_n fun x y H1 e hx hy Q q => ⟨hy.n, by
    cases hx <;> exact q _ H1 (Ex.refl H1) (.bl _)⟩
/-- texts: <, >=, + -/
theorem ed_ltS {a b : Str} (ha : EvD ta σ H (.str a)) (hb : EvD tb σ H (.str b)) : EvD (tOp (fun x y H Q => ∃ i j, x = .str i ∧ y = .str j ∧ Q (.bl (decide (i.cps.toList < j.cps.toList))) H) ta tb) σ H (.bool (decide (a.cps.toList < b.cps.toList))) :=
  ed_op ha hb fun x y H1 e hx hy Q q => ⟨a, b, hx.s, hy.s, q _ H1 (Ex.refl H1) (.bl _)⟩
theorem ed_gtS {a b : Str} (ha : EvD ta σ H (.str a)) (hb : EvD tb σ H (.str b)) : EvD (tOp (fun x y H Q => ∃ i j, x = .str i ∧ y = .str j ∧ Q (.bl (decide (j.cps.toList < i.cps.toList))) H) ta tb) σ H (.bool (decide (b.cps.toList < a.cps.toList))) :=
  ed_op ha hb fun x y H1 e hx hy Q q => ⟨a, b, hx.s, hy.s, q _ H1 (Ex.refl H1) (.bl _)⟩
theorem ed_geS {a b : Str} (ha : EvD ta σ H (.str a)) (hb : EvD tb σ H (.str b)) : EvD (tOp (fun x y H Q => ∃ i j, x = .str i ∧ y = .str j ∧ Q (.bl (!decide (i.cps.toList < j.cps.toList))) H) ta tb) σ H (.bool (!decide (a.cps.toList < b.cps.toList))) :=
  ed_op ha hb fun x y H1 e hx hy Q q => ⟨a, b, hx.s, hy.s, q _ H1 (Ex.refl H1) (.bl _)⟩
theorem ed_addS {a b : Str} (ha : EvD ta σ H (.str a)) (hb : EvD tb σ H (.str b)) (hz : a.length + b.length ≤ 100000) : EvD (tOp (fun x y H Q => ∃ i j, x = .str i ∧ y = .str j ∧ i.length + j.length ≤ sizeLine ∧ Q (.str (i ++ j)) H) ta tb) σ H (.str (a ++ b)) :=
  ed_op ha hb fun x y H1 e hx hy Q q => ⟨a, b, hx.s, hy.s, sz_of hz, q _ H1 (Ex.refl H1) (.str _)⟩
/-- one sign in a text -/
theorem ed_inSign {c : Nat} {b : Str} (ha : EvD ta σ H (.str ⟨#[c]⟩)) (hb : EvD tb σ H (.str b)) : EvD (tOp (fun x y H Q => ∃ (c : Nat) (z : Str), x = .str ⟨#[c]⟩ ∧ y = .str z ∧ Q (.bl (decide (c ∈ z.cps.toList))) H) ta tb) σ H (.bool (decide (c ∈ b.cps.toList))) :=
  ed_op ha hb fun x y H1 e hx hy Q q => ⟨c, b, hx.s, hy.s, q _ H1 (Ex.refl H1) (.bl _)⟩
/-- a text in a tuple or list of texts -/
theorem inV_strs (a : Str) : ∀ ss : List Str, inV (.str a) (ss.map V.str) = decide (a ∈ ss)
  | [] => rfl
  | s :: ss => by
    have ih := inV_strs a ss
    unfold inV at ih ⊢
    rw [List.map_cons, List.any_cons, ih]
    by_cases c : a = s
    · subst c; simp [eqV]
    · have c' : ¬ s = a := fun z => c z.symm
      simp [eqV, c, c']
theorem flat_strs : ∀ ss : List Str, (ss.map V.str).all flatV = true
  | [] => rfl
  | s :: ss => by rw [List.map_cons, List.all_cons, flat_strs ss]; rfl
theorem ed_inT {a : Str} {ss : List Str} (ha : EvD ta σ H (.str a)) (hb : EvD tb σ H (.tuple (ss.map .str))) : EvD (tOp (rIn K false) ta tb) σ H (.bool (decide (a ∈ ss))) :=
  ed_op ha hb fun x y H1 e hx hy Q q => by
    obtain ⟨p, xs, rfl, h1, h2⟩ := hy.t
    have ex := h2.strs; subst ex; rw [hx.s]
    refine ⟨p, _, rfl, .inr (SqT.of h1), rfl, flat_strs ss, ?_⟩
    have h := q _ H1 (Ex.refl H1) (.bl (decide (a ∈ ss)))
    show Q (.bl (inV (.str a) (ss.map V.str))) H1
    rw [inV_strs]; exact h
theorem ed_niT {a : Str} {ss : List Str} (ha : EvD ta σ H (.str a)) (hb : EvD tb σ H (.tuple (ss.map .str))) : EvD (tOp (rIn K true) ta tb) σ H (.bool (!decide (a ∈ ss))) :=
  ed_op ha hb fun x y H1 e hx hy Q q => by
    obtain ⟨p, xs, rfl, h1, h2⟩ := hy.t
    have ex := h2.strs; subst ex; rw [hx.s]
    refine ⟨p, _, rfl, .inr (SqT.of h1), rfl, flat_strs ss, ?_⟩
    have h := q _ H1 (Ex.refl H1) (.bl (!decide (a ∈ ss)))
    show Q (.bl (!inV (.str a) (ss.map V.str))) H1
    rw [inV_strs]; exact h
theorem ed_inL {a : Str} {ss : List Str} (ha : EvD ta σ H (.str a)) (hb : EvD tb σ H (.list (ss.map .str))) : EvD (tOp (rIn K false) ta tb) σ H (.bool (decide (a ∈ ss))) :=
  ed_op ha hb fun x y H1 e hx hy Q q => by
    obtain ⟨p, xs, rfl, h1, h2⟩ := hy.l
    have ex := h2.strs; subst ex; rw [hx.s]
    refine ⟨p, _, rfl, .inl (SqL.of h1), rfl, flat_strs ss, ?_⟩
    have h := q _ H1 (Ex.refl H1) (.bl (decide (a ∈ ss)))
    show Q (.bl (inV (.str a) (ss.map V.str))) H1
    rw [inV_strs]; exact h
/-- subscripts -/
theorem atI_im {xs : List V} {i : Int} (h : Ims H xs ds) (ha : atI ds i = some d) : ∃ v, atI xs i = some v ∧ Im H v d := by
  unfold atI at ha ⊢
  rw [h.length]
  cases e : ixN ds.length i with
  | none => rw [e] at ha; cases ha
  | some j =>
    rw [e] at ha
    exact h.getD ha
theorem ed_ixT {i : Int} (ha : EvD ta σ H (.tuple ds)) (hb : EvD tb σ H (.int i)) (hi : atI ds i = some d) : EvD (tOp (rIxT K) ta tb) σ H d :=
  ed_op ha hb fun x y H1 e hx hy Q q => by
    obtain ⟨p, xs, rfl, h1, h2⟩ := hx.t
    obtain ⟨v, hv, iv⟩ := atI_im h2 hi
    exact ⟨p, xs, i, v, rfl, hy.i, SqT.of h1, hv, q _ H1 (Ex.refl H1) iv⟩
theorem ed_ixL {i : Int} (ha : EvD ta σ H (.list ds)) (hb : EvD tb σ H (.int i)) (hi : atI ds i = some d) : EvD (tOp (rIxL K) ta tb) σ H d :=
  ed_op ha hb fun x y H1 e hx hy Q q => by
    obtain ⟨p, xs, rfl, h1, h2⟩ := hx.l
    obtain ⟨v, hv, iv⟩ := atI_im h2 hi
    exact ⟨p, xs, i, v, rfl, hy.i, SqL.of h1, hv, q _ H1 (Ex.refl H1) iv⟩
/-- list + list, tuple + tuple -/
theorem en_cat (ha : EvD ta σ H (.list ds)) (hb : EvD tb σ H (.list es)) (hz : ds.length + es.length ≤ 100000) : EvN (tOp rCat ta tb) σ H (ds ++ es) :=
  en_op ha hb fun x y H1 e hx hy Q q => by
    obtain ⟨p, xs, rfl, h1, h2⟩ := hx.l
    obtain ⟨p', xs', rfl, h1', h2'⟩ := hy.l
    refine ⟨p, p', xs, xs', rfl, rfl, h1, h1', sz_of (by rw [h2.length, h2'.length]; exact hz), fun r hr => q r _ _ hr (Ex.new hr) upd_same ((h2.append h2').mono (Ex.new hr))⟩
theorem ed_catA (ha : EvD ta σ H (.tuple ds)) (hb : EvD tb σ H (.tuple es)) (hz : ds.length + es.length ≤ 100000) : EvD (tOp (rCatA K) ta tb) σ H (.tuple (ds ++ es)) :=
  ed_op ha hb fun x y H1 e hx hy Q q => by
    obtain ⟨p, xs, rfl, h1, h2⟩ := hx.t
    obtain ⟨p', xs', rfl, h1', h2'⟩ := hy.t
    refine ⟨p, p', xs, xs', rfl, rfl, SqT.of h1, SqT.of h1', sz_of (by rw [h2.length, h2'.length]; exact hz), fun z => ?_, fun _ z => ?_, fun _ _ r hr => ?_⟩
    · subst z; cases h2; exact q _ H1 (Ex.refl H1) (.tup h1' h2')
    · subst z; cases h2'; rw [List.append_nil] at q; exact q _ H1 (Ex.refl H1) (.tup h1 h2)
    · exact q _ _ (Ex.new hr) (.tup upd_same ((h2.append h2').mono (Ex.new hr)))
/-- slices -/
def cutD (ds : List PyData) (lo hi : Option Int) : List PyData := (ds.drop (HT.sIx ds.length 0 lo)).take (HT.sIx ds.length ds.length hi - HT.sIx ds.length 0 lo)
theorem Ims.cut {xs : List V} (h : Ims H xs ds) (lo hi : Option Int) : Ims H (cutV xs lo hi) (cutD ds lo hi) := by
  unfold cutV cutD
  rw [h.length]
  exact (h.drop _).take _
theorem en_slL {tl th : TO} {lo hi : Option Int} (h : EvD te σ H (.list ds)) (h1 : EvO tl σ H lo) (h2 : EvO th σ H hi) : EvN (tSl (rSlL K) te tl th) σ H (cutD ds lo hi) := fun H1 e Q q =>
  h H1 e _ fun v H2 e2 i2 => h1 H2 (e.trans e2) _ fun H3 e3 => h2 H3 ((e.trans e2).trans e3) _ fun H4 e4 => by
    obtain ⟨p, xs, rfl, g1, g2⟩ := ((i2.mono e3).mono e4).l
    exact ⟨p, xs, rfl, SqL.of g1, fun r hr => q r _ _ (fresh_back ((e2.trans e3).trans e4) hr) (((e2.trans e3).trans e4).trans (Ex.new hr)) upd_same ((g2.cut lo hi).mono (Ex.new hr))⟩
theorem sIx_whole {n : Nat} {lo hi : Option Int} (h : HT.sIx n 0 lo = 0 ∧ HT.sIx n n hi = n) (l : List PyData) (hl : l.length = n) : cutD l lo hi = l := by
  subst hl
  unfold cutD
  rw [h.1, h.2, List.drop_zero, Nat.sub_zero, List.take_length]
theorem ed_slA {tl th : TO} {lo hi : Option Int} (h : EvD te σ H (.tuple ds)) (h1 : EvO tl σ H lo) (h2 : EvO th σ H hi) : EvD (tSl (rSlA K) te tl th) σ H (.tuple (cutD ds lo hi)) := fun H1 e Q q =>
  h H1 e _ fun v H2 e2 i2 => h1 H2 (e.trans e2) _ fun H3 e3 => h2 H3 ((e.trans e2).trans e3) _ fun H4 e4 => by
    obtain ⟨p, xs, rfl, g1, g2⟩ := ((i2.mono e3).mono e4).t
    refine ⟨p, xs, rfl, SqT.of g1, fun z => ?_, fun _ r hr => q _ _ (((e2.trans e3).trans e4).trans (Ex.new hr)) (.tup upd_same ((g2.cut lo hi).mono (Ex.new hr)))⟩
    rw [g2.length] at z
    rw [sIx_whole z ds rfl] at q
    exact q _ H4 ((e2.trans e3).trans e4) (.tup g1 g2)
theorem ed_slS {tl th : TO} {a : Str} {lo hi : Option Int} (h : EvD te σ H (.str a)) (hz : a.length ≤ 100000) (h1 : EvO tl σ H lo) (h2 : EvO th σ H hi) : EvD (tSl rSlS te tl th) σ H (.str (cutS a lo hi)) := fun H1 e Q q =>
  h H1 e _ fun v H2 e2 i2 => h1 H2 (e.trans e2) _ fun H3 e3 => h2 H3 ((e.trans e2).trans e3) _ fun H4 e4 =>
    ⟨a, i2.s, sz_of hz, q _ H4 ((e2.trans e3).trans e4) (.str _)⟩
theorem eo_i {i : Int} (h : EvD te σ H (.int i)) : EvO (tPart te) σ H (some i) := fun H1 e _ q => h H1 e _ fun v H2 e2 iv => ⟨i, iv.i, q H2 e2⟩
/-- tests and truth values -/
theorem et_D {b : Bool} (h : EvD te σ H (.bool b)) : EvT (tTest te) σ H b := fun H1 e _ q => h H1 e _ fun v H2 e2 iv => ⟨b, iv.b, q H2 e2⟩
theorem et_DB {b : Bool} (h : EvD te σ H (.bool b)) : EvT (tB te) σ H b := fun H1 e _ q => h H1 e _ fun v H2 e2 iv => ⟨b, iv.b, q H2 e2⟩
theorem EvD.ev {b : Bool} (h : EvD te σ H (.bool b)) : Ev te σ H (.bl b) := fun H1 e _ q => h H1 e _ fun v H2 e2 iv => by rw [iv.b]; exact q H2 e2
theorem EvD.evI {b : Int} (h : EvD te σ H (.int b)) : Ev te σ H (.int b) := fun H1 e _ q => h H1 e _ fun v H2 e2 iv => by rw [iv.i]; exact q H2 e2
theorem EvD.evS {b : Str} (h : EvD te σ H (.str b)) : Ev te σ H (.str b) := fun H1 e _ q => h H1 e _ fun v H2 e2 iv => by rw [iv.s]; exact q H2 e2
theorem EvD.of_ev (h : Ev te σ H v) (iv : Im H v d) : EvD te σ H d := fun H1 e Q q => h H1 e Q fun H2 e2 => q v H2 e2 (iv.mono (e.trans e2))
theorem ed_and {a b : Bool} (h1 : EvD ta σ H (.bool a)) (h2 : a = true → EvD tb σ H (.bool b)) : EvD (tAndV ta tb) σ H (.bool (a && b)) := fun H1 e Q q => h1 H1 e _ fun v H2 e2 iv => ⟨a, iv.b, by
  cases a with
  | true =>
    show tb σ H2 Q
    exact h2 rfl H2 (e.trans e2) Q fun v H3 e3 => q v H3 (e2.trans e3)
  | false =>
    show Q (.bl false) H2
    exact q _ H2 e2 (.bl _)⟩
theorem ed_or {a b : Bool} (h1 : EvD ta σ H (.bool a)) (h2 : a = false → EvD tb σ H (.bool b)) : EvD (tOrV ta tb) σ H (.bool (a || b)) := fun H1 e Q q => h1 H1 e _ fun v H2 e2 iv => ⟨a, iv.b, by
  cases a with
  | true =>
    show Q (.bl true) H2
    exact q _ H2 e2 (.bl _)
  | false =>
    show tb σ H2 Q
    exact h2 rfl H2 (e.trans e2) Q fun v H3 e3 => q v H3 (e2.trans e3)⟩
theorem ed_not {a : Bool} (h1 : EvD ta σ H (.bool a)) : EvD (tNotV ta) σ H (.bool (!a)) := fun H1 e _ q => h1 H1 e _ fun v H2 e2 iv => ⟨a, iv.b, q _ H2 e2 (.bl _)⟩
theorem ed_if {b : Bool} (h : EvT t σ H b) (h1 : b = true → EvD ta σ H d) (h2 : b = false → EvD tb σ H d) : EvD (tIf t ta tb) σ H d := fun H1 e Q q => h H1 e _ fun H2 e2 => by
  cases b with
  | true =>
    show ta σ H2 Q
    exact h1 rfl H2 (e.trans e2) Q fun v H3 e3 => q v H3 (e2.trans e3)
  | false =>
    show tb σ H2 Q
    exact h2 rfl H2 (e.trans e2) Q fun v H3 e3 => q v H3 (e2.trans e3)
/-- a op b op c -/
theorem ed_chain {g g' : Int → Int → Bool} {i j k : Int} {tc : TE} (ha : EvD ta σ H (.int i)) (hb : EvD tb σ H (.int j)) (hc : EvD tc σ H (.int k)) :
    EvD (tChain (rI0 fun i j => .bl (g i j)) (rI0 fun i j => .bl (g' i j)) ta tb tc) σ H (.bool (g i j && g' j k)) := fun H1 e Q q =>
  ha H1 e _ fun x H2 e2 i2 => hb H2 (e.trans e2) _ fun y H3 e3 i3 => ⟨i, j, i2.i, i3.i, g i j, rfl, by
    cases c : g i j with
    | true =>
      rw [if_pos rfl]
      refine hc H3 ((e.trans e2).trans e3) _ fun z H4 e4 i4 => ⟨j, k, i3.i, i4.i, ?_⟩
      have h := q (.bl (g' j k)) H4 ((e2.trans e3).trans e4) (by rw [c]; exact .bl _)
      exact h
    | false =>
      rw [if_neg (by decide)]
      exact q (.bl false) H3 (e2.trans e3) (by rw [c]; exact .bl _)⟩
end
end Pd
set_option Elab.async false
set_option linter.all false
set_option maxRecDepth 100000
set_option maxHeartbeats 2000000
/-! Pd2: built-ins, texts, comprehensions, loops and calls over immutable data. -/
namespace Pd
open PySem L2 Evl
section
variable {K : PySem.W.Frag} {σ : L2.St} {H H' : Hp} {ta tb te tx tl to : TE} {t u : TT} {x y z v : V} {d d' e' : PyData} {ds es : List PyData}
/-! ### built-ins -/
theorem ed_cb {r : List V → Hp → VK → Prop} {ta : TA} (h : EvDs ta σ H ds) (hr : ∀ vs H1, Ex H H1 → Ims H1 vs ds → ∀ Q : VK, (∀ v H2, Ex H1 H2 → Im H2 v d → Q v H2) → r vs H1 Q) : EvD (tCB r ta) σ H d := fun H1 e Q q =>
  h H1 e _ fun vs H2 e2 i2 => hr vs H2 (e.trans e2) i2 Q fun v H3 e3 i3 => q v H3 (e2.trans e3) i3
theorem en_cb {r : List V → Hp → VK → Prop} {ta : TA} (h : EvDs ta σ H ds) (hr : ∀ vs H1, Ex H H1 → Ims H1 vs ds → ∀ Q : VK, (∀ p xs H2, H1 p = none → Ex H1 H2 → H2 p = some (.lst xs) → Ims H2 xs es → Q (.ref p) H2) → r vs H1 Q) : EvN (tCB r ta) σ H es := fun H1 e Q q =>
  h H1 e _ fun vs H2 e2 i2 => hr vs H2 (e.trans e2) i2 Q fun p xs H3 n3 e3 i3 i4 => q p xs H3 (fresh_back e2 n3) (e2.trans e3) i3 i4
theorem Ims.one {vs : List V} (h : Ims H vs [d]) : ∃ v, vs = [v] ∧ Im H v d := by
  cases h with
  | cons h1 h2 => cases h2; exact ⟨_, rfl, h1⟩
theorem Ims.two {vs : List V} (h : Ims H vs [d, d']) : ∃ v w, vs = [v, w] ∧ Im H v d ∧ Im H w d' := by
  cases h with
  | cons h1 h2 => cases h2 with | cons h2 h3 => cases h3; exact ⟨_, _, rfl, h1, h2⟩
theorem Ims.three {d3 : PyData} {vs : List V} (h : Ims H vs [d, d', d3]) : ∃ v w u, vs = [v, w, u] ∧ Im H v d ∧ Im H w d' ∧ Im H u d3 := by
  cases h with
  | cons h1 h2 => obtain ⟨w, u, rfl, a, b⟩ := h2.two; exact ⟨_, _, _, rfl, h1, a, b⟩
theorem ed_lenS {a : Str} (h : EvD ta σ H (.str a)) (hz : a.length ≤ 100000) : EvD (tCB (fun xs H Q => ∃ z, xs = [.str z] ∧ z.length ≤ sizeLine ∧ Q (.int z.length) H) (tCons ta tNil)) σ H (.int a.length) :=
  ed_cb (ea1 h ea0) fun vs H1 e i Q q => by
    obtain ⟨v, rfl, iv⟩ := i.one
    rw [iv.s]
    exact ⟨a, rfl, sz_of hz, q _ H1 (Ex.refl H1) (.int _)⟩
theorem ed_lenT (h : EvD ta σ H (.tuple ds)) : EvD (tCB (rLenS K) (tCons ta tNil)) σ H (.int ds.length) :=
  ed_cb (ea1 h ea0) fun vs H1 e i Q q => by
    obtain ⟨v, rfl, iv⟩ := i.one
    obtain ⟨p, xs, rfl, h1, h2⟩ := iv.t
    exact ⟨p, xs, rfl, .inr (SqT.of h1), q _ H1 (Ex.refl H1) (by rw [h2.length]; exact .int _)⟩
theorem ed_lenL (h : EvD ta σ H (.list ds)) : EvD (tCB (rLenS K) (tCons ta tNil)) σ H (.int ds.length) :=
  ed_cb (ea1 h ea0) fun vs H1 e i Q q => by
    obtain ⟨v, rfl, iv⟩ := i.one
    obtain ⟨p, xs, rfl, h1, h2⟩ := iv.l
    exact ⟨p, xs, rfl, .inl (SqL.of h1), q _ H1 (Ex.refl H1) (by rw [h2.length]; exact .int _)⟩
/-- the built-in type of data -/
def tyN : PyData → String
  | .none => "NoneType"
  | .bool _ => "bool"
  | .int _ => "int"
  | .str _ => "str"
  | .list _ => "list"
  | .tuple _ => "tuple"
  | .dict _ => "dict"
theorem Im.ty (h : Im H v d) : TyX K H v (.type (tyN d)) := by
  cases h with
  | non => exact .base .non
  | bl b => exact .base (.bl b)
  | int i => exact .base (.int i)
  | str s => exact .base (.str s)
  | lst h1 _ => exact .base (.lst h1)
  | tup h1 _ => exact .base (.tup h1)
theorem ed_isi {T : String} {b : Bool} (h : EvD ta σ H d) (hb : kitB (tyN d) T = some b) : EvD (tCB (rIsi K) (tCons ta (tCons (tC (.ty T)) tNil))) σ H (.bool b) := fun H1 e Q q =>
  h H1 e _ fun v H2 e2 iv => ⟨v, .ty T, .type (tyN d), .type T, b, rfl, .ty T, iv.ty, kit_ty hb, q _ H2 e2 (.bl b)⟩
theorem all_strs : ∀ bs : List Bool, bs.all id = bs.all (fun b => b) := fun _ => rfl
theorem ed_all {bs : List Bool} (h : EvD te σ H (.list (bs.map .bool))) : EvD (tCB (rAll K) (tCons te tNil)) σ H (.bool (bs.all id)) :=
  ed_cb (ea1 h ea0) fun vs H1 e i Q q => by
    obtain ⟨v, rfl, iv⟩ := i.one
    obtain ⟨p, xs, rfl, h1, h2⟩ := iv.l
    have ex := h2.bls; subst ex
    exact ⟨p, bs, rfl, SqL.of h1, q _ H1 (Ex.refl H1) (.bl _)⟩
theorem ed_any {bs : List Bool} (h : EvD te σ H (.list (bs.map .bool))) : EvD (tCB (rAny K) (tCons te tNil)) σ H (.bool (bs.any id)) :=
  ed_cb (ea1 h ea0) fun vs H1 e i Q q => by
    obtain ⟨v, rfl, iv⟩ := i.one
    obtain ⟨p, xs, rfl, h1, h2⟩ := iv.l
    have ex := h2.bls; subst ex
    exact ⟨p, bs, rfl, SqL.of h1, q _ H1 (Ex.refl H1) (.bl _)⟩
abbrev rTupOf (K : PySem.W.Frag) : List V → Hp → VK → Prop := fun xs H Q => ∃ p ys, xs = [.ref p] ∧ ((SqL K H p ys ∧ ∀ l, H l = none → Q (.ref l) (upd H l (.tup ys))) ∨ (SqT K H p ys ∧ Q (.ref p) H))
theorem ed_tupOf (h : EvD ta σ H (.list ds)) : EvD (tCB (rTupOf K) (tCons ta tNil)) σ H (.tuple ds) :=
  ed_cb (ea1 h ea0) fun vs H1 e i Q q => by
    obtain ⟨v, rfl, iv⟩ := i.one
    obtain ⟨p, xs, rfl, h1, h2⟩ := iv.l
    exact ⟨p, xs, rfl, .inl ⟨SqL.of h1, fun l hl => q _ _ (Ex.new hl) (.tup upd_same (h2.mono (Ex.new hl)))⟩⟩
abbrev rLstOf (K : PySem.W.Frag) : List V → Hp → VK → Prop := fun xs H Q => ∃ p ys, xs = [.ref p] ∧ (SqL K H p ys ∨ SqT K H p ys) ∧ ∀ l, H l = none → Q (.ref l) (upd H l (.lst ys))
theorem en_lstOfT (h : EvD ta σ H (.tuple ds)) : EvN (tCB (rLstOf K) (tCons ta tNil)) σ H ds :=
  en_cb (ea1 h ea0) fun vs H1 e i Q q => by
    obtain ⟨v, rfl, iv⟩ := i.one
    obtain ⟨p, xs, rfl, h1, h2⟩ := iv.t
    exact ⟨p, xs, rfl, .inr (SqT.of h1), fun l hl => q l _ _ hl (Ex.new hl) upd_same (h2.mono (Ex.new hl))⟩
/-! ### texts -/
abbrev rJoin (K : PySem.W.Frag) : V → List V → Hp → VK → Prop := fun x xs H Q => ∃ a p, ∃ ys : List Str, x = .str a ∧ xs = [.ref p] ∧ (SqL K H p (ys.map V.str) ∨ SqT K H p (ys.map V.str)) ∧
    (ys.map (·.length)).sum + ys.length * a.length ≤ 16777216 ∧ Q (.str (Txt.join a ys)) H
theorem ed_joinL {a : Str} {ys : List Str} (h : EvD to σ H (.str a)) (h2 : EvD te σ H (.list (ys.map .str))) (hz : (ys.map (·.length)).sum + ys.length * a.length ≤ 16777216) : EvD (tM1 (rJoin K) to te) σ H (.str (Txt.join a ys)) := fun H1 e Q q =>
  h H1 e _ fun v H2 e2 iv => ⟨⟨a, iv.s⟩, h2 H2 (e.trans e2) _ fun w H3 e3 iw => by
    obtain ⟨p, xs, rfl, g1, g2⟩ := iw.l
    have ex := g2.strs; subst ex
    exact ⟨a, p, ys, iv.s, rfl, .inl (SqL.of g1), hz, q _ H3 (e2.trans e3) (.str _)⟩⟩
theorem ed_joinT {a : Str} {ys : List Str} (h : EvD to σ H (.str a)) (h2 : EvD te σ H (.tuple (ys.map .str))) (hz : (ys.map (·.length)).sum + ys.length * a.length ≤ 16777216) : EvD (tM1 (rJoin K) to te) σ H (.str (Txt.join a ys)) := fun H1 e Q q =>
  h H1 e _ fun v H2 e2 iv => ⟨⟨a, iv.s⟩, h2 H2 (e.trans e2) _ fun w H3 e3 iw => by
    obtain ⟨p, xs, rfl, g1, g2⟩ := iw.t
    have ex := g2.strs; subst ex
    exact ⟨a, p, ys, iv.s, rfl, .inr (SqT.of g1), hz, q _ H3 (e2.trans e3) (.str _)⟩⟩
abbrev rSplit : V → List V → Hp → VK → Prop := fun x xs H Q => ∃ a b, x = .str a ∧ xs = [.str b] ∧ (b.length == 0) = false ∧ a.length + 2 ≤ sizeLine ∧ rNewStrs (Txt.split a b) H Q
theorem en_split {a b : Str} (h : EvD to σ H (.str a)) (h2 : EvD te σ H (.str b)) (hb : (b.length == 0) = false) (hz : a.length + 2 ≤ 100000) : EvN (tM1 rSplit to te) σ H ((Txt.split a b).map .str) := fun H1 e Q q =>
  h H1 e _ fun v H2 e2 iv => ⟨⟨a, iv.s⟩, h2 H2 (e.trans e2) _ fun w H3 e3 iw =>
    ⟨a, b, iv.s, by rw [iw.s], hb, sz_of hz, fun p hp => q p _ _ (fresh_back (e2.trans e3) hp) ((e2.trans e3).trans (Ex.new hp)) upd_same (Ims.ofStrs _)⟩⟩
abbrev rUpper : V → List V → Hp → VK → Prop := fun x xs H Q => ∃ a, x = .str a ∧ xs = [] ∧ a.length ≤ 5592405 ∧ Q (.str (Txt.upper a)) H
theorem ed_upper {a : Str} (h : EvD to σ H (.str a)) (hz : a.length ≤ 100000) : EvD (tM0 rUpper to) σ H (.str (Txt.upper a)) := fun H1 e Q q =>
  h H1 e _ fun v H2 e2 iv => ⟨⟨a, iv.s⟩, a, iv.s, rfl, by omega, q _ H2 e2 (.str _)⟩
/-! ### calls of pure defs -/
def SpP (dom : List PyData → Prop) (f : List PyData → PyData) : Sp := fun vs H Q _ => ∃ ds, Ims H vs ds ∧ dom ds ∧ ∀ v H', Ex H H' → Im H' v (f ds) → Q v H'
theorem ed_call {dom : List PyData → Prop} {f : List PyData → PyData} {E : XK} {ta : TA} (h : EvDs ta σ H ds) (hd : dom ds) : EvD (tCall (SpP dom f) [] E ta) σ H (f ds) := fun H1 e Q q =>
  h H1 e _ fun vs H2 e2 i2 => ⟨ds, by rw [List.append_nil]; exact i2, hd, fun v H3 e3 i3 => q v H3 (e2.trans e3) i3⟩
/-- by a relation of arguments and result -/
def SpQ (R : List PyData → PyData → Prop) : Sp := fun vs H Q _ => ∃ ds d, Ims H vs ds ∧ R ds d ∧ ∀ v H', Ex H H' → Im H' v d → Q v H'
theorem ed_callQ {R : List PyData → PyData → Prop} {E : XK} {ta : TA} (h : EvDs ta σ H ds) (hd : R ds d) : EvD (tCall (SpQ R) [] E ta) σ H d := fun H1 e Q q =>
  h H1 e _ fun vs H2 e2 i2 => ⟨ds, d, by rw [List.append_nil]; exact i2, hd, fun v H3 e3 i3 => q v H3 (e2.trans e3) i3⟩
theorem SpQ.len {R : List PyData → PyData → Prop} {n : Nat} (h : ∀ ds d, R ds d → ds.length = n) : ∀ vs H Q E, SpQ R vs H Q E → vs.length = n := fun vs H Q E ⟨ds, d, i, r, _⟩ => by rw [i.length]; exact h ds d r
/-- slices of data -/
theorem cutD_from (k : Nat) (ds : List PyData) : cutD ds (some (k : Int)) none = ds.drop k := by
  unfold cutD
  rw [HT.sIx_nat, HT.sIx_none]
  rcases Nat.le_total k ds.length with h | h
  · rw [Nat.min_eq_left h, List.take_of_length_le (by simp)]
  · rw [Nat.min_eq_right h]
    simp [List.drop_eq_nil_of_le h]
theorem cutD_to (k : Nat) (ds : List PyData) : cutD ds none (some (k : Int)) = ds.take k := by
  unfold cutD
  rw [HT.sIx_nat, HT.sIx_none, List.drop_zero, Nat.sub_zero]
  rcases Nat.le_total k ds.length with h | h
  · rw [Nat.min_eq_left h]
  · rw [Nat.min_eq_right h, List.take_of_length_le (Nat.le_refl _), List.take_of_length_le h]
theorem cutD_init (ds : List PyData) : cutD ds none (some (-1)) = ds.dropLast := by
  unfold cutD
  have e : HT.sIx ds.length ds.length (some (-1)) = ds.length - 1 := by
    show (if (-1 : Int) < 0 then ((-1 : Int) + (ds.length : Int)).toNat else min (-1 : Int).toNat ds.length) = ds.length - 1
    rw [if_pos (by omega)]
    omega
  rw [e, HT.sIx_none, List.drop_zero, Nat.sub_zero, List.dropLast_eq_take]
/-- shapes -/
theorem shaped_strs {ss : List Str} (h : ∀ w ∈ ss, PyData.strOk w = true) : SeqAt.shaped (.tuple (ss.map .str)) = true := by
  have c : ∀ l : List Str, (∀ w ∈ l, PyData.strOk w = true) → PyData.canLayAll0 (l.map .str) = true ∧ PyData.depthAll (l.map .str) = 0 := by
    intro l
    induction l with
    | nil => intro _; exact ⟨by simp [PyData.canLayAll0], by simp [PyData.depthAll]⟩
    | cons a l ih =>
      intro hl
      obtain ⟨i1, i2⟩ := ih fun w hw => hl w (List.mem_cons_of_mem _ hw)
      have ha := hl a (List.mem_cons_self ..)
      exact ⟨by simp [PyData.canLayAll0, PyData.canLay0, ha, i1], by simp [PyData.depthAll, PyData.depth, i2]⟩
  obtain ⟨c1, c2⟩ := c ss h
  unfold SeqAt.shaped
  simp [PyData.canLay0, PyData.depth, c1, c2]
theorem shaped_rows {sss : List (List Str)} (h : ∀ ss ∈ sss, ∀ w ∈ ss, PyData.strOk w = true) : SeqAt.shaped (.tuple (sss.map fun ss => .tuple (ss.map .str))) = true := by
  have c : ∀ l : List (List Str), (∀ ss ∈ l, ∀ w ∈ ss, PyData.strOk w = true) → PyData.canLayAll0 (l.map fun ss => .tuple (ss.map .str)) = true ∧ PyData.depthAll (l.map fun ss => .tuple (ss.map .str)) ≤ 63 := by
    intro l
    induction l with
    | nil => intro _; exact ⟨by simp [PyData.canLayAll0], by simp [PyData.depthAll]⟩
    | cons a l ih =>
      intro hl
      obtain ⟨i1, i2⟩ := ih fun w hw => hl w (List.mem_cons_of_mem _ hw)
      have ha := shaped_strs (hl a (List.mem_cons_self ..))
      unfold SeqAt.shaped at ha
      simp only [Bool.and_eq_true, decide_eq_true_eq] at ha
      have hd : PyData.depth (.tuple (a.map .str)) ≤ 63 := by
        have z : ∀ m : List Str, PyData.depthAll (m.map .str) = 0 := by
          intro m
          induction m with
          | nil => simp [PyData.depthAll]
          | cons b m ih2 => simp [PyData.depthAll, PyData.depth, ih2]
        simp [PyData.depth, z a]
      refine ⟨by simp only [List.map_cons, PyData.canLayAll0, ha.1, i1, Bool.and_self], ?_⟩
      simp only [List.map_cons, PyData.depthAll]
      omega
  obtain ⟨c1, c2⟩ := c sss h
  unfold SeqAt.shaped
  have e : decide (PyData.depth (.tuple (sss.map fun ss => .tuple (ss.map .str))) ≤ 64) = true := by
    rw [decide_eq_true_eq]
    show PyData.depthAll (sss.map fun ss => .tuple (ss.map .str)) + 1 ≤ 64
    omega
  rw [e]
  show (PyData.canLayAll0 (sss.map fun ss => .tuple (ss.map .str)) && true) = true
  rw [c1]; rfl
theorem eqv_nil (ds : List PyData) : PyData.eqv (.tuple ds) (.tuple []) = ds.isEmpty := by
  cases ds <;> simp [PyData.eqv, PyData.eqvAll]
theorem shaped_nil : SeqAt.shaped (.tuple []) = true := by decide
/-! ### what is walked -/
/-- wi walks data src -/
def Wk (wi : TI) (σ : L2.St) (H : Hp) (src : List PyData) : Prop := ∀ H1, Ex H H1 → ∀ R : It → Hp → Prop,
  (∀ J H2 G Y, Ex H1 H2 → Walk J src.length G Y → (∀ H3, Ex H2 H3 → G H3) → (∀ i H3 x H4, Ex H2 H3 → Y i H3 x H4 → Ex H3 H4 ∧ ∃ d, src[i]? = some d ∧ Im H4 x d) → R J H2) → wi σ H1 R
theorem Wk.mono {wi : TI} {src : List PyData} (e : Ex H H') (h : Wk wi σ H src) : Wk wi σ H' src := fun H1 a R r => h H1 (e.trans a) R r
theorem wk_tup (h : EvD tl σ H (.tuple ds)) : Wk (iTup K tl) σ H ds := fun H1 e R r =>
  h H1 e _ fun v H2 e2 iv => by
    obtain ⟨p, xs, rfl, g1, g2⟩ := iv.t
    refine ⟨p, rfl, ⟨xs, SqT.of g1⟩, r _ H2 (fun H => SqT K H p xs) (YAt xs) e2 (by rw [← g2.length]; exact walk_tup) (fun H3 e3 => SqT.of (e3 _ _ g1)) fun i H3 x H4 e3 yy => ?_⟩
    obtain ⟨rfl, hx⟩ := yy
    obtain ⟨d, hd, im⟩ := (g2.mono e3).get hx
    exact ⟨Ex.refl _, d, hd, im⟩
theorem wk_list (h : EvD tl σ H (.list ds)) : Wk (iList K tl) σ H ds := fun H1 e R r =>
  h H1 e _ fun v H2 e2 iv => by
    obtain ⟨p, xs, rfl, g1, g2⟩ := iv.l
    refine ⟨p, rfl, ⟨xs, SqL.of g1⟩, r _ H2 (fun H => SqL K H p xs) (YAt xs) e2 (by rw [← g2.length]; exact walk_list) (fun H3 e3 => SqL.of (e3 _ _ g1)) fun i H3 x H4 e3 yy => ?_⟩
    obtain ⟨rfl, hx⟩ := yy
    obtain ⟨d, hd, im⟩ := (g2.mono e3).get hx
    exact ⟨Ex.refl _, d, hd, im⟩
/-- a text's signs -/
def signs (z : Str) : List PyData := z.cps.toList.map fun c => .str ⟨#[c]⟩
theorem wk_str {z : Str} (h : EvD tl σ H (.str z)) : Wk (iStr tl) σ H (signs z) := fun H1 e R r =>
  h H1 e _ fun v H2 e2 iv => by
    refine ⟨z, iv.s, r _ H2 (fun _ => True) (fun i H v H' => H' = H ∧ ∃ c, z.cps[i]? = some c ∧ v = .str ⟨#[c]⟩) e2 (by
      have : (signs z).length = z.cps.size := by simp [signs]
      rw [this]; exact walk_str) (fun _ _ => trivial) fun i H3 x H4 e3 yy => ?_⟩
    obtain ⟨rfl, c, hc, rfl⟩ := yy
    refine ⟨Ex.refl _, .str ⟨#[c]⟩, ?_, .str _⟩
    unfold signs
    rw [List.getElem?_map]
    have : z.cps.toList[i]? = some c := by simpa using hc
    rw [this]; rfl
theorem zip_get {α β : Type} : ∀ {xs : List α} {ys : List β} {i : Nat} {x : α} {y : β}, xs[i]? = some x → ys[i]? = some y → (xs.zip ys)[i]? = some (x, y)
  | [], _, _, _, _, h, _ => by simp at h
  | _ :: _, [], _, _, _, _, h => by simp at h
  | x :: xs, y :: ys, 0, _, _, h1, h2 => by simp at h1 h2; subst h1; subst h2; rfl
  | x :: xs, y :: ys, i + 1, _, _, h1, h2 => by simp at h1 h2; simpa using zip_get h1 h2
def pairs (ds es : List PyData) : List PyData := (ds.zip es).map fun p => .tuple [p.1, p.2]
theorem wk_zipT {ta : TA} (h : EvDs ta σ H [.tuple ds, .tuple es]) : Wk (RZ.iZipA K ta) σ H (pairs ds es) := fun H1 e R r =>
  h H1 e _ fun vs H2 e2 iv => by
    obtain ⟨v, w, rfl, i1, i2⟩ := iv.two
    obtain ⟨p, xs, rfl, g1, g2⟩ := i1.t
    obtain ⟨p', xs', rfl, g1', g2'⟩ := i2.t
    refine ⟨p, p', xs, xs', rfl, .inr ⟨SqT.of g1, SqT.of g1', r _ H2 (fun H => SqT K H p xs ∧ SqT K H p' xs') (YPair (fun i => xs[i]?) (fun i => xs'[i]?)) e2 ?_ (fun H3 e3 => ⟨SqT.of (e3 _ _ g1), SqT.of (e3 _ _ g1')⟩) fun i H3 x H4 e3 yy => ?_⟩⟩
    · have hn : (pairs ds es).length = min xs.length xs'.length := by simp [pairs, g2.length, g2'.length]
      rw [hn]
      refine ⟨fun i _ hi q => ?_, fun _ q => ⟨xs, xs', q.1, q.2, by omega⟩, fun i H v H' _ q y => ?_⟩
      · have h1 : i < xs.length := by omega
        have h2 : i < xs'.length := by omega
        exact ⟨xs, xs', xs[i], xs'[i], q.1, q.2, by simp [h1], by simp [h2]⟩
      · obtain ⟨T, x, z, h1, h2, h3, h4, h5⟩ := y
        exact ⟨T, x, z, h1, h2, h3, h4 xs q.1, h5 xs' q.2⟩
    · obtain ⟨T, a, b, rfl, hT, rfl, ha, hb⟩ := yy
      obtain ⟨d1, hd1, im1⟩ := (g2.mono e3).get ha
      obtain ⟨d2, hd2, im2⟩ := (g2'.mono e3).get hb
      refine ⟨Ex.new hT, .tuple [d1, d2], ?_, .tup upd_same (.cons (im1.mono (Ex.new hT)) (.cons (im2.mono (Ex.new hT)) .nil))⟩
      unfold pairs
      rw [List.getElem?_map, zip_get hd1 hd2] <;> rfl
theorem wk_zipL {ta : TA} (h : EvDs ta σ H [.list ds, .list es]) : Wk (RZ.iZipA K ta) σ H (pairs ds es) := fun H1 e R r =>
  h H1 e _ fun vs H2 e2 iv => by
    obtain ⟨v, w, rfl, i1, i2⟩ := iv.two
    obtain ⟨p, xs, rfl, g1, g2⟩ := i1.l
    obtain ⟨p', xs', rfl, g1', g2'⟩ := i2.l
    refine ⟨p, p', xs, xs', rfl, .inl ⟨SqL.of g1, SqL.of g1', r _ H2 (fun H => SqL K H p xs ∧ SqL K H p' xs') (YPair (fun i => xs[i]?) (fun i => xs'[i]?)) e2 ?_ (fun H3 e3 => ⟨SqL.of (e3 _ _ g1), SqL.of (e3 _ _ g1')⟩) fun i H3 x H4 e3 yy => ?_⟩⟩
    · have hn : (pairs ds es).length = min xs.length xs'.length := by simp [pairs, g2.length, g2'.length]
      exact walk_zip hn
    · obtain ⟨T, a, b, rfl, hT, rfl, ha, hb⟩ := yy
      obtain ⟨d1, hd1, im1⟩ := (g2.mono e3).get ha
      obtain ⟨d2, hd2, im2⟩ := (g2'.mono e3).get hb
      refine ⟨Ex.new hT, .tuple [d1, d2], ?_, .tup upd_same (.cons (im1.mono (Ex.new hT)) (.cons (im2.mono (Ex.new hT)) .nil))⟩
      unfold pairs
      rw [List.getElem?_map, zip_get hd1 hd2] <;> rfl
/-- enumerate -/
def numbered : Nat → List PyData → List PyData
  | _, [] => []
  | n, d :: ds => .tuple [.int (n : Nat), d] :: numbered (n + 1) ds
theorem numbered_length : ∀ (ds : List PyData) (n : Nat), (numbered n ds).length = ds.length
  | [], _ => rfl
  | d :: ds, n => by simp [numbered, numbered_length ds]
theorem numbered_get : ∀ (ds : List PyData) (n i : Nat) (d : PyData), ds[i]? = some d → (numbered n ds)[i]? = some (.tuple [.int ((n + i : Nat) : Int), d])
  | [], _, _, _, h => by simp at h
  | d :: ds, n, 0, _, h => by simp at h; subst h; simp [numbered]
  | d :: ds, n, i + 1, e, h => by
    have ih := numbered_get ds (n + 1) i e (by simpa using h)
    simp only [numbered, List.getElem?_cons_succ, ih]
    have : n + 1 + i = n + (i + 1) := by omega
    rw [this]
theorem wk_enumL {ta : TA} (h : EvDs ta σ H [.list ds]) : Wk (iEnum K ta) σ H (numbered 0 ds) := fun H1 e R r =>
  h H1 e _ fun vs H2 e2 iv => by
    obtain ⟨v, rfl, i1⟩ := iv.one
    obtain ⟨p, xs, rfl, g1, g2⟩ := i1.l
    refine ⟨p, xs, rfl, SqL.of g1, r _ H2 (fun H => SqL K H p xs) (YPair (fun i => some (.int (i : Nat))) (fun i => xs[i]?)) e2 (by rw [numbered_length, ← g2.length]; exact walk_enum) (fun H3 e3 => SqL.of (e3 _ _ g1)) fun i H3 x H4 e3 yy => ?_⟩
    obtain ⟨T, a, b, rfl, hT, rfl, ha, hb⟩ := yy
    obtain ⟨d2, hd2, im2⟩ := (g2.mono e3).get hb
    have ea : a = .int (i : Nat) := (Option.some.inj ha).symm
    subst ea
    refine ⟨Ex.new hT, .tuple [.int (i : Nat), d2], ?_, .tup upd_same (.cons (.int _) (.cons (im2.mono (Ex.new hT)) .nil))⟩
    have := numbered_get ds 0 i d2 hd2
    rw [Nat.zero_add] at this
    exact this
/-! ### comprehensions -/
theorem tx_lst {D : Addr} {acc ys : List V} (h : H D = some (.lst acc)) : Tx H (upd H D (.lst ys)) := fun a xs ha => by
  rw [upd_ne (fun z => by subst z; rw [h] at ha; cases ha)]
  exact ha
theorem stills_of {α : Type} {f : α → PyData} : ∀ {l : List α}, (∀ d ∈ l, still (f d) = true) → stills (l.map f) = true
  | [], _ => rfl
  | d :: l, h => by
    show (still (f d) && stills (l.map f)) = true
    rw [h d (List.mem_cons_self ..), stills_of fun e he => h e (List.mem_cons_of_mem _ he)]
    rfl
theorem take_more {α : Type} : ∀ {l : List α} {i : Nat} {x : α}, l[i]? = some x → l.take (i + 1) = l.take i ++ [x]
  | [], i, x, h => by simp at h
  | a :: l, 0, x, h => by simp at h; subst h; rfl
  | a :: l, i + 1, x, h => by
    have ih := take_more (l := l) (i := i) (x := x) (by simpa using h)
    show a :: l.take (i + 1) = a :: l.take i ++ [x]
    rw [ih]; rfl
/-- a comprehension over data that comes from a list l of things: what each thing gives -/
theorem en_lcG {α : Type} {wi : TI} {g : TG} {tt : TT} {vs : List Nat} {l : List α} {emb : α → PyData} (f : α → PyData) (c : α → Bool) (hk : Wk wi σ H (l.map emb)) (hz : l.length ≤ 40000)
    (hb : ∀ d, d ∈ l → ∀ x H1, Ex H H1 → Im H1 x (emb d) → ∀ K' : L2.St → Hp → Prop, (∀ σ2, wipe σ2 vs = wipe σ vs → EvT tt σ2 H1 (c d) → (c d = true → EvD te σ2 H1 (f d)) → K' σ2 H1) → g x (wipe σ vs) H1 K')
    (hs : ∀ d ∈ l, c d = true → still (f d) = true) : EvN (tLc wi g tt te vs) σ H ((l.filter c).map f) := fun H0 e0 Q q =>
  hk H0 e0 _ fun J H2 G Y e2 W hG hY D hD => by
    have still_take : ∀ i, stills (((l.take i).filter c).map f) = true := fun i => by
      have key : ∀ m : List α, (∀ d ∈ m, c d = true → still (f d) = true) → stills ((m.filter c).map f) = true := by
        intro m
        induction m with
        | nil => intro _; rfl
        | cons d m ih =>
          intro hm
          have ih' := ih fun e he => hm e (List.mem_cons_of_mem _ he)
          cases hc : c d with
          | true =>
            rw [List.filter_cons_of_pos hc]
            show (still (f d) && stills ((m.filter c).map f)) = true
            rw [hm d (List.mem_cons_self ..) hc, ih']; rfl
          | false => rw [List.filter_cons_of_neg (by rw [hc]; decide)]; exact ih'
      exact key _ fun d hd hc => hs d (List.mem_of_mem_take hd) hc
    rw [List.length_map] at W
    refine lc_it W (fun i H' => Ex H2 H' ∧ ∃ acc, H' D = some (.lst acc) ∧ acc.length ≤ i ∧ Ims H' acc (((l.take i).filter c).map f))
      ⟨Ex.new hD, [], upd_same, Nat.le_refl _, .nil⟩ (fun i H' _ p => hG H' p.1) (fun i x H3 H4 hi p y => ?_) fun H' p => ?_
    · obtain ⟨p1, acc, p2, p4, p3⟩ := p
      obtain ⟨e34, d0, hd0, im⟩ := hY i H3 x H4 p1 y
      rw [List.getElem?_map] at hd0
      obtain ⟨d, hd, rfl⟩ : ∃ d, l[i]? = some d ∧ emb d = d0 := by
        cases e : l[i]? with
        | none => rw [e] at hd0; cases hd0
        | some d => rw [e] at hd0; exact ⟨d, rfl, Option.some.inj hd0⟩
      have hm : d ∈ l := List.mem_of_getElem? hd
      refine hb d hm x H4 ((e0.trans e2).trans (p1.trans e34)) im _ fun σ2 hσ hT hE => ⟨hσ, ?_⟩
      refine hT H4 (Ex.refl H4) _ fun H5 e45 => ?_
      have more := take_more hd
      cases hc : c d with
      | true =>
        show te σ2 H5 _
        refine hE hc H5 e45 _ fun v H6 e56 iv => ⟨acc, ((e34.trans e45).trans e56) D _ p2, sz_lt (by omega), Ex.mut (((p1.trans e34).trans e45).trans e56) hD, acc ++ [v], upd_same, by rw [List.length_append, List.length_singleton]; omega, ?_⟩
        have hacc := ((e34.trans e45).trans e56) D _ p2
        have t6 : Tx H6 (upd H6 D (.lst (acc ++ [v]))) := tx_lst hacc
        rw [more, List.filter_append, List.map_append]
        have ef : List.filter c [d] = [d] := by simp [hc]
        rw [ef]
        exact Ims.append ((p3.mono ((e34.trans e45).trans e56)).tx t6 (still_take i)) (.cons (iv.tx t6 (hs d hm hc)) .nil)
      | false =>
        show Ex H2 H5 ∧ _
        refine ⟨(p1.trans e34).trans e45, acc, (e34.trans e45) D _ p2, by omega, ?_⟩
        rw [more, List.filter_append]
        have ef : List.filter c [d] = [] := by simp [hc]
        rw [ef, List.append_nil]
        exact p3.mono (e34.trans e45)
    · obtain ⟨p1, acc, p2, _, p3⟩ := p
      rw [List.take_length] at p3
      exact q D acc H' (fresh_back e2 hD) (e2.trans p1) p2 p3
/-- the target a name -/
theorem en_lc {α : Type} {wi : TI} {tt : TT} {j : Nat} {vs : List Nat} {l : List α} {emb : α → PyData} (f : α → PyData) (c : α → Bool) (hk : Wk wi σ H (l.map emb)) (hz : l.length ≤ 40000)
    (hb : ∀ d, d ∈ l → ∀ x H1, Ex H H1 → Im H1 x (emb d) → EvT tt ((wipe σ vs).set j (some x)) H1 (c d) ∧ (c d = true → EvD te ((wipe σ vs).set j (some x)) H1 (f d)))
    (hs : ∀ d ∈ l, c d = true → still (f d) = true) (hw : ∀ x, wipe ((wipe σ vs).set j (some x)) vs = wipe σ vs := by intro x; rfl) : EvN (tLc wi (gName j) tt te vs) σ H ((l.filter c).map f) :=
  en_lcG f c hk hz (fun d hd x H1 e im K' k => k _ (hw x) (hb d hd x H1 e im).1 (hb d hd x H1 e im).2) hs
theorem et_yes : EvT tYes σ H true := fun H1 _ _ q => q H1 (Ex.refl H1)
/-- .. without a test -/
theorem en_lcM {α : Type} {wi : TI} {j : Nat} {vs : List Nat} {l : List α} {emb : α → PyData} (f : α → PyData) (hk : Wk wi σ H (l.map emb)) (hz : l.length ≤ 40000)
    (hb : ∀ d, d ∈ l → ∀ x H1, Ex H H1 → Im H1 x (emb d) → EvD te ((wipe σ vs).set j (some x)) H1 (f d))
    (hs : ∀ d ∈ l, still (f d) = true) (hw : ∀ x, wipe ((wipe σ vs).set j (some x)) vs = wipe σ vs := by intro x; rfl) : EvN (tLc wi (gName j) tYes te vs) σ H (l.map f) := by
  have h := en_lc (tt := tYes) (α := α) f (fun _ => true) hk hz (fun d hd x H1 e im => ⟨et_yes, fun _ => hb d hd x H1 e im⟩) (fun d hd _ => hs d hd) hw
  rw [List.filter_eq_self.mpr (fun _ _ => rfl)] at h
  exact h
/-- the target a pair of names -/
theorem en_lcP {α : Type} {wi : TI} {i j : Nat} {vs : List Nat} {l : List α} {e1 e2 : α → PyData} (f : α → PyData) (hk : Wk wi σ H (l.map fun a => .tuple [e1 a, e2 a])) (hz : l.length ≤ 40000)
    (hb : ∀ d, d ∈ l → ∀ x y H1, Ex H H1 → Im H1 x (e1 d) → Im H1 y (e2 d) → EvD te (((wipe σ vs).set i (some x)).set j (some y)) H1 (f d))
    (hs : ∀ d ∈ l, still (f d) = true) (hw : ∀ x y, wipe (((wipe σ vs).set i (some x)).set j (some y)) vs = wipe σ vs := by intro x y; rfl) : EvN (tLc wi (gTup K 2 (gCons (gName i) (gCons (gName j) gNil))) tYes te vs) σ H (l.map f) := by
  have h := en_lcG (te := te) (α := α) (g := gTup K 2 (gCons (gName i) (gCons (gName j) gNil))) (tt := tYes) (vs := vs) f (fun _ => true) hk hz (fun d hd x H1 e im K' k => by
    obtain ⟨p, xs, rfl, g1, g2⟩ := im.t
    obtain ⟨a, b, rfl, ia, ib⟩ := g2.two
    refine ⟨p, [a, b], rfl, SqT.of g1, rfl, a, [b], rfl, b, [], rfl, rfl, ?_⟩
    exact k _ (hw a b) et_yes fun _ => hb d hd a b H1 e ia ib) (fun d hd _ => hs d hd)
  rw [List.filter_eq_self.mpr (fun _ _ => rfl)] at h
  exact h
theorem pairs_map {α β : Type} (e1 : α → PyData) (e2 : β → PyData) : ∀ (l : List α) (m : List β), pairs (l.map e1) (m.map e2) = (l.zip m).map fun p => .tuple [e1 p.1, e2 p.2]
  | [], _ => rfl
  | _ :: _, [] => rfl
  | a :: l, b :: m => by
    have ih := pairs_map e1 e2 l m
    unfold pairs at ih ⊢
    simp only [List.map_cons, List.zip_cons_cons, ih]
/-- a text's signs -/
theorem en_lcS {j : Nat} {vs : List Nat} {z : Str} (f : Nat → PyData) (h : EvD tl σ H (.str z)) (hz : z.length ≤ 40000)
    (hb : ∀ c, c ∈ z.cps.toList → ∀ H1, Ex H H1 → EvD te ((wipe σ vs).set j (some (.str ⟨#[c]⟩))) H1 (f c))
    (hs : ∀ d ∈ z.cps.toList, still (f d) = true) (hw : ∀ x, wipe ((wipe σ vs).set j (some x)) vs = wipe σ vs := by intro x; rfl) : EvN (tLc (iStr tl) (gName j) tYes te vs) σ H (z.cps.toList.map f) :=
  en_lcM (l := z.cps.toList) (emb := fun c => .str ⟨#[c]⟩) f (wk_str h) (by simpa [Str.length] using hz) (fun c hc x H1 e im => by rw [im.s]; exact hb c hc H1 e) hs hw
/-! ### statements -/
variable {D : Ends} {tu tw tz : TS} {g : TG}
theorem s_asgD {i : Nat} (h : EvD te σ H d) (k : ∀ v H1, Ex H H1 → Im H1 v d → D.nx (σ.set i (some v)) H1) : tAsg te (gName i) D σ H := h H (Ex.refl H) _ fun v H1 e iv => k v H1 e iv
theorem q_asgD {i : Nat} (h : EvD te σ H d) (k : ∀ v H1, Ex H H1 → Im H1 v d → tz D (σ.set i (some v)) H1) : tSeq (tAsg te (gName i)) tz D σ H := s_asgD (D := { D with nx := tz D }) h k
theorem q_asgN {i : Nat} (h : EvN te σ H ds) (k : ∀ p xs H1, H p = none → Ex H H1 → H1 p = some (.lst xs) → Ims H1 xs ds → tz D (σ.set i (some (.ref p))) H1) : tSeq (tAsg te (gName i)) tz D σ H := h H (Ex.refl H) _ fun p xs H1 n e a b => k p xs H1 n e a b
theorem s_retD (h : EvD te σ H d) (k : ∀ v H1, Ex H H1 → Im H1 v d → D.rt v H1) : tRet te D σ H := h H (Ex.refl H) _ fun v H1 e iv => k v H1 e iv
/-- xs.append(e) of still data -/
theorem s_appD {l : Addr} {xs : List V} (hl : H l = some (.lst xs)) (ha : Ev ta σ H (.ref l)) (h : EvD te σ H d) (hs : still d = true) (hz : xs.length < 100000) (k : ∀ v H1, Ex H H1 → H1 l = some (.lst xs) → Im (upd H1 l (.lst (xs ++ [v]))) v d → D.nx σ (upd H1 l (.lst (xs ++ [v])))) :
    tDrop (tBM K "list" rAppend ta (tCons te tNil)) D σ H := ha H (Ex.refl H) _ fun H1 e1 =>
  ⟨Or.inl ⟨rfl, xs, sq_of (e1 l _ hl)⟩, h H1 e1 _ fun v H2 e2 iv => ⟨l, xs, v, rfl, rfl, e2 l _ (e1 l _ hl), sz_lt hz, k v H2 (e1.trans e2) (e2 l _ (e1 l _ hl)) (iv.tx (tx_lst (e2 l _ (e1 l _ hl))) hs)⟩⟩
/-! ### frames: what a part of a program may change -/
/-- all but the objects at M is as it was; the tuples stay -/
def ExM (M : List Addr) (H H' : Hp) : Prop := (∀ a o, a ∉ M → H a = some o → H' a = some o) ∧ Tx H H'
theorem ExM.refl (M : List Addr) (H : Hp) : ExM M H H := ⟨fun _ _ _ h => h, Tx.refl H⟩
theorem ExM.trans {M : List Addr} {H H1 H2 : Hp} (a : ExM M H H1) (b : ExM M H1 H2) : ExM M H H2 := ⟨fun x o n h => b.1 x o n (a.1 x o n h), a.2.trans b.2⟩
theorem ExM.of {M : List Addr} {H H' : Hp} (e : Ex H H') : ExM M H H' := ⟨fun a o _ h => e a o h, Tx.of e⟩
theorem ExM.upd {M : List Addr} {H : Hp} {l : Addr} {xs ys : List V} (hl : H l = some (.lst xs)) (hm : l ∈ M) : ExM M H (upd H l (.lst ys)) :=
  ⟨fun a o n h => by rw [upd_ne (fun z => n (by rw [z]; exact hm))]; exact h, tx_lst hl⟩
theorem ExM.weak {M M' : List Addr} {H H' : Hp} (e : ExM M H H') (h : ∀ a ∈ M, a ∈ M') : ExM M' H H' := ⟨fun a o n q => e.1 a o (fun z => n (h a z)) q, e.2⟩
theorem ExM.ex {H H' : Hp} (e : ExM [] H H') : Ex H H' := fun a o h => e.1 a o (by simp) h
/-- a fresh object may change: it is no part of what is kept -/
theorem ExM.ex_of {M : List Addr} {H0 H H' : Hp} (e0 : Ex H0 H) (hM : ∀ a ∈ M, H0 a = none) (e : ExM M H H') : Ex H0 H' := fun a o h =>
  e.1 a o (fun z => by rw [hM a z] at h; cases h) (e0 a o h)
theorem Im.m {M : List Addr} (e : ExM M H H') (s : still d = true) (h : Im H v d) : Im H' v d := h.tx e.2 s
/-- wi walks data src while all but M stays -/
def WkM (M : List Addr) (wi : TI) (σ : L2.St) (H : Hp) (src : List PyData) : Prop := ∀ H1, Ex H H1 → ∀ R : It → Hp → Prop,
  (∀ J H2 G Y, Ex H1 H2 → Walk J src.length G Y → (∀ H3, ExM M H2 H3 → G H3) → (∀ i H3 x H4, ExM M H2 H3 → Y i H3 x H4 → Ex H3 H4 ∧ ∃ d, src[i]? = some d ∧ Im H4 x d) → R J H2) → wi σ H1 R
theorem wm_tup {M : List Addr} (h : EvD tl σ H (.tuple ds)) (hs : stills ds = true) : WkM M (iTup K tl) σ H ds := fun H1 e R r =>
  h H1 e _ fun v H2 e2 iv => by
    obtain ⟨p, xs, rfl, g1, g2⟩ := iv.t
    refine ⟨p, rfl, ⟨xs, SqT.of g1⟩, r _ H2 (fun H => SqT K H p xs) (YAt xs) e2 (by rw [← g2.length]; exact walk_tup) (fun H3 e3 => SqT.of (e3.2 _ _ g1)) fun i H3 x H4 e3 yy => ?_⟩
    obtain ⟨rfl, hx⟩ := yy
    obtain ⟨d, hd, im⟩ := (g2.tx e3.2 hs).get hx
    exact ⟨Ex.refl _, d, hd, im⟩
/-- over a new list -/
theorem wm_new {M : List Addr} (h : EvN tl σ H ds) (hM : ∀ a ∈ M, H a ≠ none) (hs : stills ds = true) : WkM M (iList K tl) σ H ds := fun H1 e R r =>
  h H1 e _ fun p xs H2 n2 e2 g1 g2 => by
    have hp : p ∉ M := fun z => hM p z (fresh_back e n2)
    refine ⟨p, rfl, ⟨xs, SqL.of g1⟩, r _ H2 (fun H => SqL K H p xs) (YAt xs) e2 (by rw [← g2.length]; exact walk_list) (fun H3 e3 => SqL.of (e3.1 _ _ hp g1)) fun i H3 x H4 e3 yy => ?_⟩
    obtain ⟨rfl, hx⟩ := yy
    obtain ⟨d, hd, im⟩ := (g2.tx e3.2 hs).get hx
    exact ⟨Ex.refl _, d, hd, im⟩
/-- over a list at p -/
theorem wm_at {M : List Addr} {p : Addr} {xs : List V} (h : Ev tl σ H (.ref p)) (g1 : H p = some (.lst xs)) (g2 : Ims H xs ds) (hp : p ∉ M) (hs : stills ds = true) : WkM M (iList K tl) σ H ds := fun H1 e R r =>
  h H1 e _ fun H2 e2 => by
    have g1 := (e.trans e2) _ _ g1
    have g2 := g2.mono (e.trans e2)
    refine ⟨p, rfl, ⟨xs, SqL.of g1⟩, r _ H2 (fun H => SqL K H p xs) (YAt xs) e2 (by rw [← g2.length]; exact walk_list) (fun H3 e3 => SqL.of (e3.1 _ _ hp g1)) fun i H3 x H4 e3 yy => ?_⟩
    obtain ⟨rfl, hx⟩ := yy
    obtain ⟨d, hd, im⟩ := (g2.tx e3.2 hs).get hx
    exact ⟨Ex.refl _, d, hd, im⟩
theorem wm_enumAt {M : List Addr} {p : Addr} {xs : List V} (h : Ev tl σ H (.ref p)) (g1 : H p = some (.lst xs)) (g2 : Ims H xs ds) (hp : p ∉ M) (hs : stills ds = true) : WkM M (iEnum K (tCons tl tNil)) σ H (numbered 0 ds) := fun H1 e R r =>
  h H1 e _ fun H2 e2 => by
    have g1 := (e.trans e2) _ _ g1
    have g2 := g2.mono (e.trans e2)
    refine ⟨p, xs, rfl, SqL.of g1, r _ H2 (fun H => SqL K H p xs) (YPair (fun i => some (.int (i : Nat))) (fun i => xs[i]?)) e2 (by rw [numbered_length, ← g2.length]; exact walk_enum) (fun H3 e3 => SqL.of (e3.1 _ _ hp g1)) fun i H3 x H4 e3 yy => ?_⟩
    obtain ⟨T, a, b, rfl, hT, rfl, ha, hb⟩ := yy
    obtain ⟨d2, hd2, im2⟩ := (g2.tx e3.2 hs).get hb
    have ea : a = .int (i : Nat) := (Option.some.inj ha).symm
    subst ea
    refine ⟨Ex.new hT, .tuple [.int (i : Nat), d2], ?_, .tup upd_same (.cons (.int _) (.cons (im2.mono (Ex.new hT)) .nil))⟩
    have := numbered_get ds 0 i d2 hd2
    rw [Nat.zero_add] at this
    exact this
theorem wm_enumNew {M : List Addr} (h : EvN tl σ H ds) (hM : ∀ a ∈ M, H a ≠ none) (hs : stills ds = true) : WkM M (iEnum K (tCons tl tNil)) σ H (numbered 0 ds) := fun H1 e R r =>
  h H1 e _ fun p xs H2 n2 e2 g1 g2 => by
    have hp : p ∉ M := fun z => hM p z (fresh_back e n2)
    refine ⟨p, xs, rfl, SqL.of g1, r _ H2 (fun H => SqL K H p xs) (YPair (fun i => some (.int (i : Nat))) (fun i => xs[i]?)) e2 (by rw [numbered_length, ← g2.length]; exact walk_enum) (fun H3 e3 => SqL.of (e3.1 _ _ hp g1)) fun i H3 x H4 e3 yy => ?_⟩
    obtain ⟨T, a, b, rfl, hT, rfl, ha, hb⟩ := yy
    obtain ⟨d2, hd2, im2⟩ := (g2.tx e3.2 hs).get hb
    have ea : a = .int (i : Nat) := (Option.some.inj ha).symm
    subst ea
    refine ⟨Ex.new hT, .tuple [.int (i : Nat), d2], ?_, .tup upd_same (.cons (.int _) (.cons (im2.mono (Ex.new hT)) .nil))⟩
    have := numbered_get ds 0 i d2 hd2
    rw [Nat.zero_add] at this
    exact this
theorem wm_range {M : List Addr} {ta : TA} {n : Nat} (h : EvDs ta σ H [.int (n : Int)]) (hn : n ≤ 100000) : WkM M (iRng1 ta) σ H ((List.range n).map fun i => .int (i : Nat)) := fun H1 e R r =>
  h H1 e _ fun vs H2 e2 iv => by
    obtain ⟨v, rfl, i1⟩ := iv.one
    refine ⟨(n : Int), by rw [i1.i], by omega, by omega, r _ H2 (fun _ => True) (fun i H x H' => i < n ∧ H' = H ∧ x = .int (0 + (i : Int))) e2 (by
      have : ((List.range n).map fun i => PyData.int (i : Nat)).length = (n : Int).toNat := by simp
      rw [this]
      exact ⟨fun _ _ hi _ => hi, fun _ _ => Nat.le_refl _, fun i _ _ _ hi _ y => ⟨by simpa using hi, y.1, y.2⟩⟩) (fun _ _ => trivial) fun i H3 x H4 e3 yy => ?_⟩
    obtain ⟨hi', rfl, rfl⟩ := yy
    have e0 : (0 : Int) + (i : Int) = (i : Int) := Int.zero_add _
    refine ⟨Ex.refl _, .int (i : Nat), ?_, by show Im H4 (.int ((0 : Int) + (i : Int))) _; rw [e0]; exact .int _⟩
    have hi := hi'
    simp [hi]
/-- THE FOR: Pv by the turn, the slots, the heap; a turn may change what stands at M -/
theorem s_forM {wi : TI} {src : List PyData} (M : List Addr) (hk : WkM M wi σ H src) (Pv : Nat → L2.St → Hp → Prop) (h0 : ∀ H1, Ex H H1 → Pv 0 σ H1)
    (hm : ∀ i σ' H1 H2, Pv i σ' H1 → Ex H1 H2 → Pv i σ' H2)
    (hs : ∀ i d x σ' H3 H4, src[i]? = some d → Ex H3 H4 → Im H4 x d → Pv i σ' H4 → g x σ' H4 fun σ2 H5 => tu { D with nx := fun σ3 H6 => Pv (i + 1) σ3 H6 ∧ ExM M H3 H6, ct := fun σ3 H6 => Pv (i + 1) σ3 H6 ∧ ExM M H3 H6, bk := D.nx } σ2 H5)
    (hd : ∀ σ' H', Pv src.length σ' H' → D.nx σ' H') : tFor wi g tu D σ H := by
  refine hk H (Ex.refl H) _ fun J H2 G Y e2 W hG hY => ?_
  refine ⟨fun i m σ' H' => m = src.length - i ∧ i ≤ src.length ∧ Pv i σ' H' ∧ ExM M H2 H', ⟨src.length, by simp, Nat.zero_le _, h0 H2 e2, ExM.refl M H2⟩, ?_⟩
  rintro i m σ' H3 ⟨rfl, hi, p, e3⟩
  by_cases hlt : i < src.length
  · refine .inr ⟨W.goes i H3 hlt (hG H3 e3), fun σ3 H6 => Pv (i + 1) σ3 H6 ∧ ExM M H3 H6, fun σ3 H6 q => ⟨src.length - (i + 1), by omega, rfl, hlt, q.1, e3.trans q.2⟩, fun x H4 y => ?_⟩
    obtain ⟨e34, d, hd', im⟩ := hY i H3 x H4 e3 (W.yields i H3 x H4 hlt (hG H3 e3) y)
    exact hs i d x σ' H3 H4 hd' e34 im (hm i σ' H3 H4 p e34)
  · have e : i = src.length := by omega
    subst e
    exact .inl ⟨W.stops H3 (hG H3 e3), hd σ' H3 p⟩
theorem q_forM {wi : TI} {src : List PyData} (M : List Addr) (hk : WkM M wi σ H src) (Pv : Nat → L2.St → Hp → Prop) (h0 : ∀ H1, Ex H H1 → Pv 0 σ H1)
    (hm : ∀ i σ' H1 H2, Pv i σ' H1 → Ex H1 H2 → Pv i σ' H2)
    (hs : ∀ i d x σ' H3 H4, src[i]? = some d → Ex H3 H4 → Im H4 x d → Pv i σ' H4 → g x σ' H4 fun σ2 H5 => tu { D with nx := fun σ3 H6 => Pv (i + 1) σ3 H6 ∧ ExM M H3 H6, ct := fun σ3 H6 => Pv (i + 1) σ3 H6 ∧ ExM M H3 H6, bk := tz D } σ2 H5)
    (hd : ∀ σ' H', Pv src.length σ' H' → tz D σ' H') : tSeq (tFor wi g tu) tz D σ H := s_forM (D := { D with nx := tz D }) M hk Pv h0 hm hs hd
/-- a pair's names -/
theorem g_pair {i j : Nat} {x : V} {d1 d2 : PyData} {R : L2.St → Hp → Prop} (h : Im H x (.tuple [d1, d2])) (k : ∀ a b, Im H a d1 → Im H b d2 → R ((σ.set i (some a)).set j (some b)) H) : gTup K 2 (gCons (gName i) (gCons (gName j) gNil)) x σ H R := by
  obtain ⟨p, xs, rfl, g1, g2⟩ := h.t
  obtain ⟨a, b, rfl, ia, ib⟩ := g2.two
  exact ⟨p, [a, b], rfl, SqT.of g1, rfl, a, [b], rfl, b, [], rfl, rfl, k a b ia ib⟩
end
end Pd
set_option Elab.async false
set_option linter.all false
set_option maxRecDepth 100000
set_option maxHeartbeats 2000000
/-! Cal: defs of the text by name, their promises, and their calls. -/
namespace Pd
open PySem PySem.Spec PyProof.Rows L2 Evl
/-- a def that stands behind a name, its promise kept -/
structure Cal (P : Program) (w : World) (K : PySem.W.Frag) (mg : Str → Option Value) (base : Heap) (CX : CXT) (k : Nat) (x : Str) (ps : List Str) (sp : Sp) : Prop where
  ex : ∃ (f : Addr) (fd : FuncData), mg x = some (.ref f) ∧ PySem.W.keepIn K (.ref f) = true ∧ Binds K fd ps [] ∧ FnOk P w K mg base CX k f fd ps sp
/-- a def of the text that stands behind its name -/
structure Src (K : PySem.W.Frag) (mg : Str → Option Value) (x : Str) (st : Stmt) (ps : List Str) : Prop where
  ex : ∃ (f : Addr) (fd : FuncData), mg x = some (.ref f) ∧ Fun K x x st f fd ∧ Binds K fd ps []
section
variable {P : Program} {w : World} {K : PySem.W.Frag} {mg : Str → Option Value} {base : Heap}
theorem Src.cal {x : Str} {st : Stmt} {N ps : List Str} {k : Nat} {sp : Sp} (F : Src K mg x st ps) (S : FnScope N ps (defScope st)) (len : ∀ vs H Q E, sp vs H Q E → vs.length = ps.length)
    (hbody : ∀ (f : Addr) (cdv : Value) (A : Around) (outer : List Env) (s : Shared) (H : Hp) (vs : List V) (Q : VK) (E : XK), Room k (A.deeper (envOfC x (defScope st) s.heap.objs.size f cdv)) → sp vs H Q E →
      ∃ t, PSs (cxOf CX0 P w K mg base N x (defScope st) f cdv A outer s H E).nox (defBody st) t ∧ t { nx := fun _ H' => Q .non H', rt := Q } (start N vs) H) : Cal P w K mg base CX0 (k + 1) x ps sp := by
  obtain ⟨f, fd, hm, hF, hb⟩ := F.ex
  exact ⟨f, fd, hm, hF.kp, hb, hF.ok S len fun cdv A outer s H vs Q E => hbody f cdv A outer s H vs Q E⟩
theorem Src.calX {x : Str} {st : Stmt} {N ps : List Str} {k : Nat} {sp : Sp} (F : Src K mg x st ps) (S : FnScope N ps (defScope st)) (len : ∀ vs H Q E, sp vs H Q E → vs.length = ps.length)
    (hbody : ∀ (f : Addr) (cdv : Value) (A : Around) (outer : List Env) (s : Shared) (H : Hp) (vs : List V) (Q : VK) (E : XK), Room k (A.deeper (envOfC x (defScope st) s.heap.objs.size f cdv)) → sp vs H Q E →
      ∃ t, PSs (cxOf (L2.CX P w) P w K mg base N x (defScope st) f cdv A outer s H E) (defBody st) t ∧ t { nx := fun _ H' => Q .non H', rt := Q } (start N vs) H) : Cal P w K mg base (L2.CX P w) (k + 1) x ps sp := by
  obtain ⟨f, fd, hm, hF, hb⟩ := F.ex
  exact ⟨f, fd, hm, hF.kp, hb, hF.okX S len fun cdv A outer s H vs Q E => hbody f cdv A outer s H vs Q E⟩
end
section
variable {X : Cx} {CX : CXT} {k : Nat} {ps : List Str} {sp : Sp} {E : XK} {x : Str} {p pos : Pos} {e : Expr} {es : List Expr} {t : TA}
theorem pe_cal (C : Cal X.prog X.w X.K X.mg X.base CX k x ps sp) (hr : Room k X.A) (hg : Gl X x) (hx : Passes CX X E)
    (ha : PA X (e :: es) t) (hdb : (x == ("__debug__" : Str)) = false := by decide) (he : starEach (e :: es) X.env = (false, eval e X.env) :: starEach es X.env := by rfl) (hpl : (backTo pos (starEach es X.env)).any (·.1) = false := by rfl) :
    PE X (.Call (.Name x p) (e :: es) [] pos) (tCall sp [] E t) := by
  obtain ⟨f, fd, hm, hk, hb, F⟩ := C.ex
  exact pe_call F hr hg hm hk hb .nil hx ha hdb he hpl
theorem pe_calS {W : WX} (C : Cal X.prog X.w X.K X.mg X.base (L2.CX X.prog X.w) k x ps sp) (hr : Room k X.A) (hg : Gl X x) (tk : Takes X W)
    (ha : PA X (e :: es) t) (hdb : (x == ("__debug__" : Str)) = false := by decide) (he : starEach (e :: es) X.env = (false, eval e X.env) :: starEach es X.env := by rfl) (hpl : (backTo pos (starEach es X.env)).any (·.1) = false := by rfl) :
    PE X (.Call (.Name x p) (e :: es) [] pos) (tCallS sp (WE W) t) := by
  obtain ⟨f, fd, hm, hk, hb, F⟩ := C.ex
  exact pe_callS F hr hg hm hk hb (fun σ => passAt tk σ) ha hdb he hpl
end
/-! ### slots -/
section
variable {K : PySem.W.Frag} {σ : L2.St} {H H' : Hp} {ta tb te tx tl to : TE} {t u : TT} {d : PyData}
theorem s_whenD {b : Bool} {D : Ends} {tu tz : TS} (h : EvT t σ H b) (h1 : b = true → ∀ H1, Ex H H1 → tu { D with nx := tz D } σ H1) (h2 : b = false → ∀ H1, Ex H H1 → tz D σ H1) : tSeq (tIfS t tu tNext) tz D σ H := q_when h h1 h2
end
end Pd
namespace Pd
open PySem PySem.Spec PyProof.Rows L2 Evl
section
variable {X : Cx}
theorem pe_gl {x : Str} {v : V} {pos : Pos} (hg : Gl X x) (hm : ∃ u, X.mg x = some u ∧ RelV v u) (hd : (x == ("__debug__" : Str)) = false := by decide) : PE X (.Name x pos) (tC v) := by
  obtain ⟨u, h1, h2⟩ := hm
  exact pe_glob hg h1 h2 hd
end
end Pd
namespace Pd
open L2
@[simp] theorem kt_NoneType_str : kitB "NoneType" "str" = some false := by decide +kernel
@[simp] theorem kt_NoneType_tuple : kitB "NoneType" "tuple" = some false := by decide +kernel
@[simp] theorem kt_NoneType_int : kitB "NoneType" "int" = some false := by decide +kernel
@[simp] theorem kt_NoneType_bool : kitB "NoneType" "bool" = some false := by decide +kernel
@[simp] theorem kt_NoneType_list : kitB "NoneType" "list" = some false := by decide +kernel
@[simp] theorem kt_NoneType_dict : kitB "NoneType" "dict" = some false := by decide +kernel
@[simp] theorem kt_bool_str : kitB "bool" "str" = some false := by decide +kernel
@[simp] theorem kt_bool_tuple : kitB "bool" "tuple" = some false := by decide +kernel
@[simp] theorem kt_bool_int : kitB "bool" "int" = some true := by decide +kernel
@[simp] theorem kt_bool_bool : kitB "bool" "bool" = some true := by decide +kernel
@[simp] theorem kt_bool_list : kitB "bool" "list" = some false := by decide +kernel
@[simp] theorem kt_bool_dict : kitB "bool" "dict" = some false := by decide +kernel
@[simp] theorem kt_int_str : kitB "int" "str" = some false := by decide +kernel
@[simp] theorem kt_int_tuple : kitB "int" "tuple" = some false := by decide +kernel
@[simp] theorem kt_int_int : kitB "int" "int" = some true := by decide +kernel
@[simp] theorem kt_int_bool : kitB "int" "bool" = some false := by decide +kernel
@[simp] theorem kt_int_list : kitB "int" "list" = some false := by decide +kernel
@[simp] theorem kt_int_dict : kitB "int" "dict" = some false := by decide +kernel
@[simp] theorem kt_str_str : kitB "str" "str" = some true := by decide +kernel
@[simp] theorem kt_str_tuple : kitB "str" "tuple" = some false := by decide +kernel
@[simp] theorem kt_str_int : kitB "str" "int" = some false := by decide +kernel
@[simp] theorem kt_str_bool : kitB "str" "bool" = some false := by decide +kernel
@[simp] theorem kt_str_list : kitB "str" "list" = some false := by decide +kernel
@[simp] theorem kt_str_dict : kitB "str" "dict" = some false := by decide +kernel
@[simp] theorem kt_list_str : kitB "list" "str" = some false := by decide +kernel
@[simp] theorem kt_list_tuple : kitB "list" "tuple" = some false := by decide +kernel
@[simp] theorem kt_list_int : kitB "list" "int" = some false := by decide +kernel
@[simp] theorem kt_list_bool : kitB "list" "bool" = some false := by decide +kernel
@[simp] theorem kt_list_list : kitB "list" "list" = some true := by decide +kernel
@[simp] theorem kt_list_dict : kitB "list" "dict" = some false := by decide +kernel
@[simp] theorem kt_tuple_str : kitB "tuple" "str" = some false := by decide +kernel
@[simp] theorem kt_tuple_tuple : kitB "tuple" "tuple" = some true := by decide +kernel
@[simp] theorem kt_tuple_int : kitB "tuple" "int" = some false := by decide +kernel
@[simp] theorem kt_tuple_bool : kitB "tuple" "bool" = some false := by decide +kernel
@[simp] theorem kt_tuple_list : kitB "tuple" "list" = some false := by decide +kernel
@[simp] theorem kt_tuple_dict : kitB "tuple" "dict" = some false := by decide +kernel
@[simp] theorem kt_dict_str : kitB "dict" "str" = some false := by decide +kernel
@[simp] theorem kt_dict_tuple : kitB "dict" "tuple" = some false := by decide +kernel
@[simp] theorem kt_dict_int : kitB "dict" "int" = some false := by decide +kernel
@[simp] theorem kt_dict_bool : kitB "dict" "bool" = some false := by decide +kernel
@[simp] theorem kt_dict_list : kitB "dict" "list" = some false := by decide +kernel
@[simp] theorem kt_dict_dict : kitB "dict" "dict" = some true := by decide +kernel
end Pd
namespace Pd
open PySem PySem.Spec PyProof.Rows L2 Evl
/-! ### the rules with the written part K named -/
section
variable {X : Cx} {K : PySem.W.Frag} (hK : X.K = K)
include hK
theorem k_in_seq : OpR X (compareOp .In) (rIn K false) := by subst hK; exact op_in_seq
theorem k_notIn_seq : OpR X (compareOp .NotIn) (rIn K true) := by subst hK; exact op_notIn_seq
theorem k_eqD (hu : X.A.units + 64 < cLine) : OpR X (compareOp .Eq) (rEqD K) := by subst hK; exact op_eqD hu
theorem k_neD (hu : X.A.units + 64 < cLine) : OpR X (compareOp .NotEq) (rNeD K) := by subst hK; exact op_neD hu
theorem k_catA : OpR X (binaryOp .Add) (rCatA K) := by subst hK; exact op_catA
theorem k_isi : CallR X (.builtin "isinstance") (rIsi K) := by subst hK; exact call_isi
theorem k_len_seq : CallR X (.builtin "len") (rLenS K) := by subst hK; exact call_len_seq
theorem k_all (hc : X.calm = true) : CallR X (.builtin "all") (rAll K) := by subst hK; exact cr_all hc
theorem k_any (hc : X.calm = true) : CallR X (.builtin "any") (rAny K) := by subst hK; exact cr_any hc
theorem k_tuple_of : CallR X (.type "tuple") (rTupOf K) := by subst hK; exact call_tuple_of
theorem k_list_of : CallR X (.type "list") (rLstOf K) := by subst hK; exact call_list_of
theorem k_sortedS : CallR X (.builtin "sorted") (rSortedS K) := by subst hK; exact cr_sortedS
theorem k_ix_list : IxR X (rIxL K) := by subst hK; exact ix_list
theorem k_ix_tup : IxR X (rIxT K) := by subst hK; exact ix_tup
theorem k_sl_list : SlR X (rSlL K) := by subst hK; exact sl_list
theorem k_sl_tupA : SlR X (rSlA K) := by subst hK; exact sl_tupA
theorem k_pi_list {tg l : Expr} {tl : TE} (hl : PE X l tl) : PI X tg l (iList K tl) := by subst hK; exact pi_list hl
theorem k_pi_tup {tg l : Expr} {tl : TE} (hl : PE X l tl) : PI X tg l (iTup K tl) := by subst hK; exact pi_tup hl
theorem k_pi_zipA {e e2 : Expr} {ta : TA} {p pos tpos : Pos} {elts : List Expr} {kk : Nat} (hg : Gl X "zip") (hm : X.mg "zip" = none) (ha : PA X [e, e2] ta)
    (hs : starEach [e, e2] X.env = (false, eval e X.env) :: starEach [e2] X.env := by rfl) (hpl : (backTo pos (starEach [e2] X.env)).any (·.1) = false := by rfl) :
    PI X (.Tuple elts kk tpos) (.Call (.Name "zip" p) [e, e2] [] pos) (RZ.iZipA K ta) := by subst hK; exact RZ.pi_zipA hg hm ha hs hpl
theorem k_pi_enum {e : Expr} {ta : TA} {p pos tpos : Pos} {elts : List Expr} {kk : Nat} (hg : Gl X "enumerate") (hm : X.mg "enumerate" = none) (ha : PA X [e] ta) (hs : starEach [e] X.env = [(false, eval e X.env)] := by rfl) :
    PI X (.Tuple elts kk tpos) (.Call (.Name "enumerate" p) [e] [] pos) (iEnum K ta) := by subst hK; exact pi_enum hg hm ha hs
theorem k_pg_tup {es : List Expr} {k : Nat} {pos : Pos} {t : TGs} {n : Nat} (hc : X.calm = true) (h : PGs X es t) (hn : (assignEach es X.env).length = n := by rfl) (hst : (assignEach es X.env).findIdx? (·.1) = none := by rfl) : PG X (.Tuple es k pos) (gTup K n t) := by subst hK; exact pg_tup hc h hn hst
theorem k_join {o e : Expr} {to te : TE} {apos pos : Pos} (ho : PE X o to) (he : PE X e te) (hs : starEach [e] X.env = [(false, eval e X.env)] := by rfl) (hbase : attributeBase o "join" X.env (eval o X.env) = eval o X.env := by rfl) (hline : (apos.endLine == pos.line) = true := by rfl) :
    PE X (.Call (.Attribute o "join" apos) [e] [] pos) (tM1 (rJoin K) to te) := by subst hK; exact pe_join ho he hs hbase hline
theorem k_append {o e : Expr} {es : List Expr} {to : TE} {t : TA} {apos cpos : Pos} (ho : PE X o to) (ha : PA X (e :: es) t)
    (hbase : attributeBase o "append" X.env (eval o X.env) = eval o X.env := by rfl)
    (hfew : ((backTo cpos (starEach (e :: es) X.env)).all (fun x => !x.1) && (backToKw cpos (keywordEach [] X.env)).all (fun x => x.1.isSome)
      && decide ((e :: es).length + ([] : List Keyword).length + (if ([] : List Keyword).isEmpty then 0 else 1) < 30)) = true := by rfl)
    (hline : (apos.endLine == cpos.line) = true := by rfl)
    (hs : starEach (e :: es) X.env = (false, eval e X.env) :: starEach es X.env := by rfl) (hpl : (backTo cpos (starEach es X.env)).any (·.1) = false := by rfl) :
    PE X (.Call (.Attribute o "append" apos) (e :: es) [] cpos) (tBM K "list" rAppend to t) := by subst hK; exact pe_bm PySem.F.plainAttrs_list PySem.F.slot_list_append PySem.F.type_list_append mt_append ho ha hbase hfew hline hs hpl
theorem k_pop {o e : Expr} {es : List Expr} {to : TE} {t : TA} {apos cpos : Pos} (ho : PE X o to) (ha : PA X (e :: es) t)
    (hbase : attributeBase o "pop" X.env (eval o X.env) = eval o X.env := by rfl)
    (hfew : ((backTo cpos (starEach (e :: es) X.env)).all (fun x => !x.1) && (backToKw cpos (keywordEach [] X.env)).all (fun x => x.1.isSome)
      && decide ((e :: es).length + ([] : List Keyword).length + (if ([] : List Keyword).isEmpty then 0 else 1) < 30)) = true := by rfl)
    (hline : (apos.endLine == cpos.line) = true := by rfl)
    (hs : starEach (e :: es) X.env = (false, eval e X.env) :: starEach es X.env := by rfl) (hpl : (backTo cpos (starEach es X.env)).any (·.1) = false := by rfl) :
    PE X (.Call (.Attribute o "pop" apos) (e :: es) [] cpos) (tBM K "list" rPopAt to t) := by subst hK; exact pe_bm PySem.F.plainAttrs_list PySem.F.slot_list_pop PySem.F.type_list_pop mt_popAt ho ha hbase hfew hline hs hpl
end
end Pd
set_option Elab.async false
set_option linter.all false
set_option maxRecDepth 100000
set_option maxHeartbeats 2000000
/-! Xc: own exceptions. -/
namespace Pd
open PySem PySem.Spec PyProof.Rows L2 Evl
/-- an own class over ValueError (perhaps through others) without own __init__ -/
structure XCls (K : PySem.W.Frag) (mg : Str → Option Value) (x : Str) (C : Addr) : Prop where
  g : mg x = some (.ref C)
  x : PySem.W.excIn K C [.type "ValueError", .type "Exception", .type "BaseException", .type "object"] "ValueError.__new__" = true
  keep : PySem.W.keepIn K (.ref C) = true
  sub : PySem.W.subIn K (.ref C) (.type "BaseException") = some true
  ty : PySem.W.typeIn K (.ref C) = some (.type "type")
  is : PySem.W.isClsIn K C = true
  self : PySem.W.subIn K (.ref C) (.ref C) = some true
/-- an own class over ValueError with an __init__ that stores one field f -/
structure XFld (K : PySem.W.Frag) (mg : Str → Option Value) (x f : Str) (C : Addr) : Prop where
  g : mg x = some (.ref C)
  o : OexC K C
  xf : XfC K C
  nf : PySem.W.findIn K (.ref C) f = some none
  is : PySem.W.isClsIn K C = true
  self : PySem.W.subIn K (.ref C) (.ref C) = some true
theorem exm_self {K : PySem.W.Frag} {S : Addr} (h1 : PySem.W.subIn K (.ref S) (.type "BaseException") = some true) (h2 : PySem.W.isClsIn K S = true) (h3 : PySem.W.typeIn K (.ref S) = some (.type "type")) (h4 : PySem.W.subIn K (.ref S) (.ref S) = some true) :
    PySem.W.exmOne K (.ref S) (.ref S) = some true := by
  have e1 : (PySem.W.subIn K (.ref S) (.type "BaseException") == some true) = true := by rw [h1] <;> rfl
  have e2 : ((PySem.W.clsIn K S).isSome && PySem.W.typeIn K (.ref S) == some (.type "type")) = true := by
    have h2' : (PySem.W.clsIn K S).isSome = true := h2
    rw [h2', h3] <;> rfl
  show (if (PySem.W.subIn K (.ref S) (.type "BaseException") == some true) = true then (if ((PySem.W.clsIn K S).isSome && PySem.W.typeIn K (.ref S) == some (.type "type")) = true then PySem.W.subIn K (.ref S) (.ref S) else none) else none) = some true
  rw [if_pos e1, if_pos e2]
  exact h4
theorem XCls.exm {K : PySem.W.Frag} {mg : Str → Option Value} {x : Str} {C : Addr} (T : XCls K mg x C) : PySem.W.exmOne K (.ref C) (.ref C) = some true := exm_self T.sub T.is T.ty T.self
theorem XFld.exm {K : PySem.W.Frag} {mg : Str → Option Value} {x f : Str} {C : Addr} (T : XFld K mg x f C) : PySem.W.exmOne K (.ref C) (.ref C) = some true := exm_self T.o.exC T.is T.o.tyC T.self
section
variable {X : Cx} {x f : Str} {C : Addr} {p pos : Pos} {e : Expr} {ta : TA}
/-- C() -/
theorem pmk_x (T : XCls X.K X.mg x C) (hg : Gl X x) (hdb : (x == ("__debug__" : Str)) = false := by decide) : PMk X (.Call (.Name x p) [] [] pos) (fun _ H Q => Q (.ref C) none H) := by
  intro pins s σ H Q I h
  refine wpAny_Call_Name_kw (ld_glob I hg T.g ?_ hdb)
  refine PySem.W.callWith_K0 I.kIn T.keep ?_
  show wpAny _ _ (call (.ref C) []) _ _ _
  obtain ⟨bm, N, nm, qn, bs, hdct, sn, sub, ab, col, dd, k0, k1, k2, k3, k5, mN, hC, hN, hni, TT⟩ := exc_obj I.kIn T.x
  exact wpAny_call_exc_subT PySem.F.excBase_ValueError TT hC hN hni (fun h' e hm => mk_of I hm (raises_own T.sub T.ty) h (I.hok.gone hm.new)) (Nat.zero_le _)
/-- C(e, ..) without own __init__ -/
theorem pmk_xa {es : List Expr} (T : XCls X.K X.mg x C) (hg : Gl X x) (ha : PA X (e :: es) ta) (hdb : (x == ("__debug__" : Str)) = false := by decide)
    (he : starEach (e :: es) X.env = (false, eval e X.env) :: starEach es X.env := by rfl) (hpl : (backTo pos (starEach es X.env)).any (·.1) = false := by rfl) :
    PMk X (.Call (.Name x p) (e :: es) [] pos) (fun σ H Q => ta σ H fun vs H1 => vs.length ≤ sizeLine ∧ Q (.ref C) none H1) :=
  pmk_ownA PySem.F.excBase_ValueError T.x T.g T.keep (raises_own T.sub T.ty) hg ha hdb he hpl
/-- the promise of an __init__ that stores its one argument: self.f = v -/
def sp_fld (C : Addr) (f : Str) : Sp := fun vs H Q _ => ∃ (a : Addr) (v : V), vs = [.ref a, v] ∧ H a = some (exo a C none) ∧
  ∀ dx, H dx = none → dx ≠ a → Q .non (upd (upd H dx (exd dx [(f, v)])) a (exo a C (some dx)))
/-- C(e): the exception's own dict holds the field -/
theorem pmk_f {k : Nat} {fI : Addr} {fd : FuncData} (T : XFld X.K X.mg x f C) (iC : PySem.W.findIn X.K (.ref C) "__init__" = some (some (.ref fI))) (tI : PySem.W.typeIn X.K (.ref fI) = some (.type "function"))
    (F1 : FnOk X.prog X.w X.K X.mg X.base CX0 k fI fd ["self", f] (sp_fld C f)) (hb : Binds X.K fd ["self", f] []) (hr : Room (k + 1) X.A) (hg : Gl X x) (ha : PA X [e] ta) (hdb : (x == ("__debug__" : Str)) = false := by decide)
    (he : starEach [e] X.env = (false, eval e X.env) :: starEach [] X.env := by rfl) (hpl : (backTo pos (starEach [] X.env)).any (·.1) = false := by rfl) :
    PMk X (.Call (.Name x p) [e] [] pos) (tMkO C (sp_fld C f) [] ta) := pmk_oex T.o iC tI F1 hr hb .nil pass0 hg T.g ha hdb he hpl
theorem mk_f {σ : L2.St} {H : Hp} {d : PyData} {Q : XK} (h : EvDs ta σ H [d]) (k : ∀ v dd H2, Ex H H2 → Im H2 v d → H2 dd = some (.xd [(f, v)]) → Q (.ref C) (some dd) H2) : tMkO C (sp_fld C f) [] ta σ H Q := by
  refine h H (Ex.refl H) _ fun vs H1 e1 iv => ?_
  obtain ⟨v, rfl, i1⟩ := iv.one
  refine ⟨by show 1 ≤ 1000; omega, fun a ha => ⟨a, v, rfl, upd_same, fun dx hdx hne => ⟨rfl, dx, [(f, v)], upd_same, by rw [upd_ne hne, upd_same], ?_, ?_⟩⟩⟩
  · rw [upd_ne hne] at hdx; exact hdx
  · have hd1 : H1 dx = none := by rw [upd_ne hne] at hdx; exact hdx
    have e2 : Ex H1 (upd (del (upd (upd (upd H1 a (exo a C none)) dx (exd dx [(f, v)])) a (exo a C (some dx))) a) dx (.xd [(f, v)])) := fun b o hb => by
      have h1 : b ≠ a := fun z => by rw [z, ha] at hb; cases hb
      have h2 : b ≠ dx := fun z => by rw [z, hd1] at hb; cases hb
      rw [upd_ne h2, del_ne h1, upd_ne h1, upd_ne h2, upd_ne h1]
      exact hb
    exact k v dx _ (e1.trans e2) (i1.mono e2) upd_same
end
end Pd
set_option Elab.async false
set_option linter.all false
set_option maxRecDepth 100000
set_option maxHeartbeats 2000000
/-! Dr: dict(a tuple of pairs), tuple(d.items()), list.count of texts. -/
namespace Pd
open PySem PySem.Spec PyProof.Rows L2 Evl
section
variable {X : Cx} {es : List Expr} {t : TA} {pos : Pos}
/-- a tuple, a list of written items: its object is known to have no dict -/
def tTupF (t : TA) : TE := fun σ H Q => t σ H fun xs H1 => xs.length ≤ sizeLine ∧ ∀ p o, H1 p = none → o.dict = none → Q (.ref p) (upd H1 p (.frz o (.tup xs)))
theorem pe_tupF {x1} (h : PA X es t) : PE X (.Tuple es x1 pos) (tTupF t) := by
  refine ⟨fun pins s σ H Q I hq => ?_⟩
  refine wpAny_Tuple_spliced (thn (h.run pos pins s σ H _ I hq) fun us s1 ⟨xs, H1, I1, r, z, q⟩ => ⟨by rw [← r.length]; exact z, ?_⟩)
  have hf : H1 s1.heap.objs.size = none := I1.hok.fresh (Nat.le_refl _)
  refine ⟨.ref s1.heap.objs.size, upd H1 s1.heap.objs.size (.frz { cls := .type "tuple", data := .seq us.toArray } (.tup xs)), I1.laid (t' := s1.toks) (fun b u e => Heap.get?_push_of_some _ e) (Nat.le_refl _) ?_, rfl, q _ _ hf rfl⟩
  exact ⟨Heap.get?_push_size _ rfl, z, us, r, ⟨_, Heap.get?_push_size _ rfl, rfl, _, rfl⟩⟩
/-- t + u: a new one has no dict -/
def rCatF (K : PySem.W.Frag) : R2 := fun x y H Q => ∃ a b xs ys, x = .ref a ∧ y = .ref b ∧ SqT K H a xs ∧ SqT K H b ys ∧ xs.length + ys.length ≤ sizeLine ∧
  (xs = [] → Q (.ref b) H) ∧ (xs ≠ [] → ys = [] → Q (.ref a) H) ∧ (xs ≠ [] → ys ≠ [] → ∀ p o, H p = none → o.dict = none → Q (.ref p) (upd H p (.frz o (.tup (xs ++ ys)))))
theorem k_catF {K : PySem.W.Frag} (hK : X.K = K) : OpR X (binaryOp .Add) (rCatF K) := by
  subst hK
  intro pins s σ H x y v u Q I rx ry h
  obtain ⟨a, b, xs, ys, rfl, rfl, ha, hb, hz, q0, q1, q2⟩ := h
  cases rx
  cases ry
  obtain ⟨its, r1, p1, _⟩ := I.tuple ha
  obtain ⟨its2, r2, p2, _⟩ := I.tuple hb
  by_cases hx : xs = []
  · subst hx
    cases r1
    exact cat_tup0 p1 p2 ⟨.ref b, H, I, rfl, q0 rfl⟩
  · have hi : its ≠ [] := fun z => hx (r1.nil_iff.mp z)
    refine HT.cat_tup p1 p2 hi (fun z => ⟨.ref a, H, I, rfl, q1 hx (r2.nil_iff.mp z)⟩) (fun z => ?_) (by rw [← r1.length, ← r2.length]; exact hz)
    have hy : ys ≠ [] := fun e => z (r2.nil_iff.mpr e)
    refine ⟨.ref s.heap.objs.size, upd H s.heap.objs.size (.frz { cls := .type "tuple", data := .seq (its ++ its2).toArray } (.tup (xs ++ ys))), I.laid (t' := s.toks) (fun b u e => Heap.get?_push_of_some _ e) (Nat.le_refl _) ?_, rfl, q2 hx hy _ _ (I.hok.fresh (Nat.le_refl _)) rfl⟩
    exact ⟨Heap.get?_push_size _ rfl, by rw [List.length_append]; exact hz, its ++ its2, r1.append r2, ⟨_, Heap.get?_push_size _ rfl, rfl, _, rfl⟩⟩
theorem pairs_of2 {pins : List (Addr × Obj)} {σ : L2.St} {H : Hp} {s : Shared} (I : Inv X pins σ H s) : ∀ {ps : List Addr} {kvs : List (Key × V)}, Paired (fun p kv => SqT X.K H p [kV kv.1, kv.2]) ps kvs →
    ∃ (prs : List (Key × Value)) (pvs : List (Value × Value)), KV kvs prs ∧ prs.length = ps.length ∧ pvs.length = ps.length ∧ ∀ (j : Nat) (q : Value × Value), pvs[j]? = some q → ∃ (b : Addr) (k : Key), ps[j]? = some b ∧ IsTup s.heap b #[q.1, q.2] ∧ prs[j]? = some (k, q.2) ∧ keyIs k q.1 = true
  | _, _, .nil => ⟨[], [], .nil, rfl, rfl, fun j q e => by simp at e⟩
  | _, _, .cons (a := p) (b := kv) h t => by
    obtain ⟨prs, pvs, r, hl, hl2, hp⟩ := pairs_of2 I t
    obtain ⟨its, rv, ht, _⟩ := I.tuple h
    obtain ⟨u, y, ei, ru, ry⟩ := vals2 rv
    subst ei
    refine ⟨(kv.1, y) :: prs, (u, y) :: pvs, .cons ⟨rfl, ry⟩ r, by rw [List.length_cons, List.length_cons, hl], by rw [List.length_cons, List.length_cons, hl2], fun j q e => ?_⟩
    cases j with
    | zero =>
      have e' : (u, y) = q := Option.some.inj e
      subst e'
      exact ⟨p, kv.1, rfl, ht, rfl, kV_is (P := X.prog) (w := X.w) ru⟩
    | succ j =>
      obtain ⟨b, k, e1, e2, e3, e4⟩ := hp j q (by simpa using e)
      exact ⟨b, k, by simpa using e1, e2, by simpa using e3, e4⟩
/-- dict(t) of a tuple of pairs (key, value) -/
def rDictF (K : PySem.W.Frag) : List V → Hp → VK → Prop := fun xs H Q => ∃ (a : Addr) (o : Obj) (ps : List Addr) (kvs : List (Key × V)), xs = [.ref a] ∧ H a = some (.frz o (.tup (ps.map V.ref))) ∧ o.dict = none ∧ Paired (fun p kv => SqT K H p [kV kv.1, kv.2]) ps kvs ∧
    ∀ p, H p = none → Q (.ref p) (upd H p (.dK (mergeK [] kvs)))
theorem k_dictF {K : PySem.W.Frag} (hK : X.K = K) (hcalm : X.calm = true) : CallR X (.type "dict") (rDictF K) := by
  subst hK
  intro pins s σ H xs us Q I r q
  obtain ⟨a, o, ps, kvs, ex, hq, hod, hp, q⟩ := q
  subst ex
  obtain ⟨u, eu, rx⟩ := vals1 r
  subst eu
  cases rx
  obtain ⟨ho, hz, its, rv, ⟨o2, ho2, hc, n, hd⟩⟩ := I.hok a _ hq
  rw [ho] at ho2
  cases ho2
  have ei := refs_at rv
  subst ei
  rw [List.length_map] at hz
  obtain ⟨prs, pvs, rel, hl, hl2, hpr⟩ := pairs_of2 I hp
  refine PySem.call_dict_pairs (knd := mixKind X.prog X.w) (kvs := prs) (PairArg.tuple a (ps.map Value.ref).toArray (fun j => ps.getD j 0) pvs) (I.ok.hd hcalm) ⟨⟨o, n, ho, hc, hod, hd⟩, by simp [hl2], fun j k v e => ?_⟩ ⟨by rw [hl, hl2], fun i key v e => ?_⟩ (by rw [hl2]; exact hz) fun h' tk hd' k => ?_
  · obtain ⟨b, kk, e1, e2, e3, e4⟩ := hpr j (k, v) e
    have eb : ps.getD j 0 = b := by simp [List.getD, e1]
    show _ ∧ _
    dsimp only
    rw [eb]
    exact ⟨by simp [e1], .inl e2⟩
  · obtain ⟨b, kk, e1, e2, e3, e4⟩ := hpr i (key, v) e
    exact ⟨kk, e3, e4⟩
  · have hm : (s.heap.objs.size == sysModules) = false := beq_eq_false_iff_ne.mpr (Nat.ne_of_gt I.big)
    have hlen : (mergeK [] kvs).length ≤ sizeLine := by
      refine Nat.le_trans (length_mergeK kvs []) ?_
      rw [List.length_nil, Nat.zero_add, rel.length, hl]
      exact hz
    exact ⟨.ref s.heap.objs.size, upd H s.heap.objs.size (.dK (mergeK [] kvs)), I.laid (t' := tk) (fun b o e => k b o (by simp) e) (Nat.le_refl _) (show ObjOk X.prog X.w _ _ _ (.dK (mergeK [] kvs)) from ⟨hlen, hm, merged [] prs, KV.merge rel .nil, hd'⟩), rfl, q _ (I.hok.fresh (Nat.le_refl _))⟩
/-- xs.count(t) of a list of texts -/
def rCntS (K : PySem.W.Frag) : V → List V → Hp → VK → Prop := fun x xs H Q => ∃ (p : Addr) (ns : List Str) (k : Str), x = .ref p ∧ xs = [.str k] ∧ SqL K H p (ns.map V.str) ∧ Q (.int (ns.countP fun n => decide (n = k) : Nat)) H
theorem countP_eqU {x : V} : ∀ {xs : List V} {us : List Value}, Vals xs us → xs.all flatV = true → us.countP (eqU x) = xs.countP fun y => eqV y x
  | _, _, .nil, _ => rfl
  | y :: xs, u :: us, .cons r t, f => by
    rw [List.all_cons, Bool.and_eq_true] at f
    rw [List.countP_cons, List.countP_cons, eqU_of r f.1, countP_eqU t f.2]
theorem mt_lcountS : MtR X "list.count" (rCntS X.K) := by
  intro pins s σ H x xs v us Q I rx rxs h
  obtain ⟨p, ns, k, rfl, rfl, hs, q⟩ := h
  cases rx
  obtain ⟨u, rfl, ru⟩ := rxs.one
  obtain ⟨its, rv, ⟨⟨cls, dd, data, sl⟩, n, ho, hc, hdn, hd⟩, hlen⟩ := I.list hs
  simp only at hc hd
  subst hc hd
  refine call_meets PySem.F.slot_list_count ⟨_, ho, rfl⟩ PySem.F.entry_list_count (PySem.F.args_list_count_2 _ _)
    (SeqAt.list_countAt p its.toArray n dd sl u (eqU (.str k))) ⟨ho, fun y hy => mem_eqAt ru rfl rv (flat_strs ns) y (by simpa using hy), ?_⟩
  have ec : its.toArray.toList.countP (eqU (.str k)) = ns.countP fun n => decide (n = k) := by
    show its.countP (eqU (.str k)) = _
    rw [countP_eqU rv (flat_strs ns), List.countP_map]
    refine List.countP_congr fun a _ => ?_
    show (eqV (V.str a) (.str k) = true) ↔ _
    simp [eqV]
  refine ⟨.int (ns.countP (fun n => decide (n = k)) : Nat), H, I.tok _, ⟨s.toks, ?_⟩, q⟩
  show Value.int ((its.toArray.toList.countP (eqU (.str k)) : Nat) : Int) s.toks = Value.int ((ns.countP (fun n => decide (n = k)) : Nat) : Int) s.toks
  rw [ec]
end
end Pd
set_option Elab.async false
set_option linter.all false
set_option maxRecDepth 100000
set_option maxHeartbeats 2000000
/-! Dr2: tuple(d.items()). -/
namespace Pd
open PySem PySem.Spec PyProof.Rows L2 Evl LiI
open AutoSeq1 (wpAny_loadPart')
section
variable {prog : Program} {w : World}
theorem tuple_new_items (r d : Addr) (o : Obj) (knd : PySem.KeyKind prog w Key) (kvs : List (Key × Value)) (ep : Nat) (hc : o.cls = .type "dict_items") :
    MeetsIn prog w (Builtin.«tuple.__new__» ⟨[.type "tuple", .ref r], []⟩) (fun A R s => A.handled = none ∧ s.heap.get? r = some o ∧ s.heap.IsItemsView r d ∧ s.heap.DictAt knd d kvs ep ∧ kvs.length ≤ sizeLine ∧
      ∀ (h' : Heap) (tk : Nat) (as : List Addr), (∀ b o, s.heap.get? b = some o → h'.get? b = some o) → as.length = kvs.length → PySem.W.KdxG knd kvs s.heap.objs.size h' as →
        R (.ok (.ret (.ref h'.objs.size))) { s with heap := h'.push { cls := .type "tuple", data := .seq (as.map Value.ref).toArray }, toks := tk }) :=
  .of_wp fun A R s h => by
    obtain ⟨hp, g, dd, tk, os⟩ := s
    obtain ⟨hh, ht, hv, hm, hn, h⟩ := h
    have hsub := sub_tuple_self
    have hinit := init_tuple_lookup
    have hmh := madeHere_tuple
    have hT : Shared.TypeIs ⟨hp, g, dd, tk, os⟩ (.ref r) "dict_items" := ⟨o, ht, hc⟩
    have col : ∀ {Q : List Value → Shared → Prop} {E : Value → Shared → Prop}, (∀ (h' : Heap) (tk : Nat) (as : List Addr), (∀ b o, hp.get? b = some o → h'.get? b = some o) → as.length = kvs.length → PySem.W.KdxG knd kvs hp.objs.size h' as → Q (as.map Value.ref) ⟨h', g, dd, tk, os⟩) → wpAny (model prog w) A.in1 (collect (.ref r)) Q E ⟨hp, g, dd, tk, os⟩ := fun q => PySem.W.kdx_collect (s := ⟨hp, g, dd, tk, os⟩) hh hv hm hn q
    obtain ⟨o2, ho2, hc2, hd2⟩ := hv
    rw [ht] at ho2
    cases ho2
    wp_walk using wpAny_loadPart' ht, wpAny_typeOf hT, col
    intro h' tk' as hk hl hG
    have hz : as.length ≤ sizeLine := by rw [hl]; exact hn
    show wpAny _ _ (Builtin.Tuple.tupleExact (as.map Value.ref).toArray >>= fun v => ret v) _ _ _
    unfold Builtin.Tuple.tupleExact
    refine wpAny_bind (wpAny_newObj_type ?_ (by show (as.map Value.ref).toArray.size ≤ sizeLine; simpa using hz))
    refine wpAny_pure ⟨_, rfl, ?_⟩
    exact h h' tk' as hk hl hG
end
/-- tuple(d.items()): the address of the tuple is the last -/
def rItemsT : V → Hp → VK → Prop := fun x H Q => ∃ (d : Addr) (kvs : List (Key × V)), x = .ref d ∧ kvs ≠ [] ∧ H d = some (.dK kvs) ∧
  ∀ (H' : Hp) (p : Addr) (ts : List Addr), (∀ b o, H b = some o → H' b = some o) → H p = none → H' p = some (.tup (ts.map V.ref)) → Paired (fun (t : Addr) (q : Key × V) => H' t = some (.tup [kV q.1, q.2])) ts kvs → Q (.ref p) H'
def tTupItems (te : TE) : TE := fun σ H Q => te σ H fun x H1 => rItemsT x H1 Q
section
variable {X : Cx} {e : Expr} {te : TE} {p apos cpos pos : Pos}
theorem items_laidT {pins : List (Addr × Obj)} {σ : L2.St} {H : Hp} {s : Shared} {h' : Heap} {tk : Nat} {kvs : List (Key × V)} {vs : List (Key × Value)} {as : List Addr} (I : Inv X pins σ H s) (hne : kvs ≠ []) (hz : kvs.length ≤ sizeLine) (kv : KV kvs vs)
    (hk : ∀ b o, s.heap.get? b = some o → h'.get? b = some o) (hl : as.length = vs.length) (hG : PySem.W.KdxG (mixKind X.prog X.w) vs s.heap.objs.size h' as) :
    ∃ H' : Hp, (∀ b o, H b = some o → H' b = some o) ∧ H h'.objs.size = none ∧ H' h'.objs.size = some (.tup (as.map V.ref)) ∧ Paired (fun (t : Addr) (q : Key × V) => H' t = some (.tup [kV q.1, q.2])) as kvs ∧ Inv X pins σ H' { s with heap := h'.push { cls := .type "tuple", data := .seq (as.map Value.ref).toArray }, toks := tk } := by
  have lk : kvs.length = vs.length := Paired.length kv
  have hsz : s.heap.objs.size ≤ h'.objs.size := by
    cases as with
    | nil => exact absurd (List.length_eq_zero_iff.mp (lk.trans hl.symm)) hne
    | cons a as => exact Nat.le_of_lt (Nat.lt_trans (hG.above a (List.mem_cons_self ..)) (hG.there (List.mem_cons_self ..)))
  have hSn : h'.objs.size ∉ as := fun z => Nat.lt_irrefl _ (hG.there z)
  have nd : as.Nodup := List.Pairwise.imp (fun {a b} (h : a < b) => Nat.ne_of_lt h) hG.rise
  have new : ∀ t ∈ as, H t = none := fun t ht => I.hok.fresh (Nat.le_of_lt (hG.above t ht))
  have newS : H h'.objs.size = none := I.hok.fresh hsz
  have atP := putT_at as kvs (upd H h'.objs.size (.tup (as.map V.ref))) (by omega) nd
  have off : ∀ b, b ∉ as → b ≠ h'.objs.size → putT (upd H h'.objs.size (.tup (as.map V.ref))) as kvs b = H b := fun b h1 h2 => by rw [putT_off as kvs _ h1, upd_ne h2]
  have low : ∀ b o, s.heap.get? b = some o → b ∉ as ∧ b ≠ h'.objs.size := fun b o e => ⟨fun z => absurd (Heap.lt_size e) (Nat.not_lt.mpr (Nat.le_of_lt (hG.above b z))), Nat.ne_of_lt (Heap.lt_size (hk b o e))⟩
  have kp : ∀ b u, H b = some u → (putT (upd H h'.objs.size (.tup (as.map V.ref))) as kvs) b = some u := fun b u e => by
    rw [off b (fun z => by rw [new b z] at e; cases e) (fun z => by rw [z, newS] at e; cases e)]
    exact e
  have eS : putT (upd H h'.objs.size (.tup (as.map V.ref))) as kvs h'.objs.size = some (.tup (as.map V.ref)) := by rw [putT_off as kvs _ hSn, upd_same]
  have hk2 : ∀ b o, s.heap.get? b = some o → (h'.push { cls := .type "tuple", data := .seq (as.map Value.ref).toArray }).get? b = some o := fun b o q => Heap.get?_push_of_some _ (hk b o q)
  refine ⟨putT (upd H h'.objs.size (.tup (as.map V.ref))) as kvs, kp, newS, eS, atP, ?_⟩
  refine I.call' (ch := []) rfl ⟨fun b o q _ _ _ => hk2 b o q, fun b o q _ _ _ => ⟨o.slots, hk2 b o q⟩, fun b o q n _ => ?_, fun b o q _ => ⟨o, hk2 b o q⟩, fun b xs q => kp b _ q, fun b o u q => kp b _ q, fun b ps q => ⟨#[], by rw [kp b _ q]; simp⟩⟩ (fun b u q => ?_) I.bare fun b z => by simp at z
  · obtain ⟨z1, z2⟩ := low b o q
    rw [off b z1 z2]
    exact n
  · by_cases hb : b ∈ as
    · obtain ⟨j, pk, e1, e2, e3⟩ := paired_ix atP hb
      rw [e3] at q
      cases q
      obtain ⟨key, k, x, f1, f2, f3⟩ := hG.pairs j b e1
      obtain ⟨qv, g1, g2, g3⟩ := L2.paired_get kv e2
      rw [f1] at g1
      cases g1
      have rk : RelV (kV pk.1) key := by
        rw [g2]
        exact relV_key (show keyIs k key = true from f2)
      exact ⟨by show 2 ≤ sizeLine; decide, [key, x], .cons rk (.cons g3 .nil), ⟨_, Heap.get?_push_of_some _ f3, rfl, _, rfl⟩⟩
    · by_cases hb2 : b = h'.objs.size
      · rw [hb2] at q ⊢
        rw [eS] at q
        cases q
        exact ⟨by rw [List.length_map]; omega, as.map Value.ref, vals_refs as, ⟨_, Heap.get?_push_size _ rfl, rfl, _, rfl⟩⟩
      · rw [off b hb hb2] at q
        exact (I.hok b u q).stay (fun d v _ y => hk2 d v y) (fun d y => kp d _ y) fun d xs y => kp d _ y
/-- tuple(e.items()) -/
theorem pe_tupItems (hc : X.calm = true) (he : PE X e te) (hg : Gl X "tuple") (hm : X.mg "tuple" = none) (hv : bootBuiltins "tuple" = some (.type "tuple")) (hbase : attributeBase e "items" X.env (eval e X.env) = eval e X.env := by rfl) (hline : (apos.endLine == cpos.line) = true := by rfl)
    (hs : starEach [.Call (.Attribute e "items" apos) [] [] cpos] X.env = (false, eval (.Call (.Attribute e "items" apos) [] [] cpos) X.env) :: starEach [] X.env := by rfl) :
    PE X (.Call (.Name "tuple" p) [.Call (.Attribute e "items" apos) [] [] cpos] [] pos) (tTupItems te) := by
  refine ⟨fun pins s σ H Q I hq => ?_⟩
  refine wpAny_Call_Name_kw (ld_blt I hg hm hv ?_)
  refine PyProof.Rows.callWith_type1 ?_ hs rfl
  rw [hs]
  show wpAny _ _ (spliced ((false, eval (.Call (.Attribute e "items" apos) [] [] cpos) X.env) :: backTo pos (starEach [] X.env))) _ _ s
  refine Calls.spliced_cons ?_
  refine wpAny_Call_method (T := "dict") (id := "dict.items") hbase rfl hline F.plainAttrs_dict F.slot_dict_items F.type_dict_items (thn (he.run pins s σ H _ I hq) fun u s1 ⟨x, H1, I1, rx, d, kvs, ex, hne, hd, q⟩ => ?_)
  subst ex
  obtain rfl : u = Value.ref d := rx
  obtain ⟨hz, hs0, vs, kv, hdo⟩ := I1.hok d _ hd
  obtain ⟨ep, hat⟩ := hdo.dictAt
  have lk : kvs.length = vs.length := Paired.length kv
  have I2 : Inv X pins σ H1 { s1 with heap := s1.heap.push { cls := .type "dict_items", data := .fields #[.ref d] } } := I1.kept (t' := s1.toks) fun b ob q => Heap.get?_push_of_some _ q
  refine ⟨hdo.typeIs, hdo.mapOf.noDict, ?_⟩
  show wpAny _ _ (callWith cpos (.builtin "dict.items") [.ref d] [] []) _ X.xe s1
  refine method_meetsIn F.slot_dict_items F.entry_dict_items rfl (PySem.evalArgs_none ⟨rfl, hdo.typeIs, F.args_dict_items_1 _, _, meets_dict_items (mixKind X.prog X.w) d hs0, ⟨vs, hdo⟩, ?_⟩)
  refine Calls.spliced_nil ?_
  have hgv : (s1.heap.push { cls := .type "dict_items", data := .fields #[.ref d] }).get? s1.heap.objs.size = some { cls := .type "dict_items", data := .fields #[.ref d] } := Heap.get?_push_size _ rfl
  refine callType_newIn F.called_tuple (by decide) (F.typeCall_tuple_1 _) (F.newCall_tuple_1 _) (fun obj => F.args_object_init_2 obj _) F.entry_tuple_new
    (tuple_new_items s1.heap.objs.size d _ (mixKind X.prog X.w) vs ep rfl) ⟨I.ok.hd hc, hgv, ⟨_, hgv, rfl, rfl⟩, hat.push _, by omega, fun h' tk as hk hl hG => ?_⟩
  obtain ⟨H', k1, k2, k3, k4, J⟩ := items_laidT (tk := tk) I2 hne hz kv hk hl hG
  exact ⟨⟨_, Heap.get?_push_size _ rfl, rfl⟩, .ref _, H', J, rfl, q H' _ as k1 k2 k3 k4⟩
end
end Pd
set_option Elab.async false
set_option linter.all false
set_option maxRecDepth 100000
set_option maxHeartbeats 2000000
/-! Dd: dict(tuple), its items, count, and answers that are known only by what holds of them. -/
namespace Pd
open PySem PyProof.Rows L2 Evl
def EvF (te : TE) (σ : L2.St) (H : Hp) (ds : List PyData) : Prop := ∀ H1, Ex H H1 → ∀ Q : VK, (∀ p o xs H2, Ex H1 H2 → H2 p = some (.frz o (.tup xs)) → o.dict = none → Ims H2 xs ds → Q (.ref p) H2) → te σ H1 Q
/-- some data of which P holds -/
def EvP (te : TE) (σ : L2.St) (H : Hp) (P : PyData → Prop) : Prop := ∀ H1, Ex H H1 → ∀ Q : VK, (∀ v d H2, Ex H1 H2 → P d → Im H2 v d → Q v H2) → te σ H1 Q
def EvNP (te : TE) (σ : L2.St) (H : Hp) (P : List PyData → Prop) : Prop := ∀ H1, Ex H H1 → ∀ Q : VK, (∀ p xs ds H2, H1 p = none → Ex H1 H2 → P ds → H2 p = some (.lst xs) → Ims H2 xs ds → Q (.ref p) H2) → te σ H1 Q
/-- a test that may go either way, what holds then being P -/
def EvX (tt : TT) (σ : L2.St) (H : Hp) (P : Bool → Prop) : Prop := ∀ H1, Ex H H1 → ∀ Q : Bool → Hp → Prop, (∀ b H2, Ex H1 H2 → P b → Q b H2) → tt σ H1 Q
section
variable {K : PySem.W.Frag} {σ : L2.St} {H H' : Hp} {ta tb te tx tl to : TE} {t u : TT} {x y z v : V} {d d' e' : PyData} {ds es : List PyData}
theorem EvF.is {es : List PyData} (h : EvF te σ H ds) (e : ds = es) : EvF te σ H es := e ▸ h
theorem ef_tup {ta : TA} (h : EvDs ta σ H ds) (hl : ds.length ≤ 100000) : EvF (tTupF ta) σ H ds := fun H1 e _ q =>
  h H1 e _ fun vs H2 e2 i2 => ⟨sz_of (by rw [i2.length]; exact hl), fun p o hp ho => q p o vs _ (e2.trans (Ex.new hp)) upd_same ho (i2.mono (Ex.new hp))⟩
theorem ef_cat1 (ha : EvD ta σ H (.tuple ds)) (hb : EvF tb σ H es) (he : es ≠ []) (hz : ds.length + es.length ≤ 100000) : EvF (tOp (rCatF K) ta tb) σ H (ds ++ es) := fun H1 e Q q =>
  ha H1 e _ fun x H2 e2 ix => hb H2 (e.trans e2) _ fun p' o xs' H3 e3 g1' ho g2' => by
    obtain ⟨p, xs, rfl, g1, g2⟩ := (ix.mono e3).t
    have hne : xs' ≠ [] := fun z => by subst z; cases g2'; exact he rfl
    refine ⟨p, p', xs, xs', rfl, rfl, SqT.of g1, .inl (.inr ⟨o, g1'⟩), sz_of (by rw [g2.length, g2'.length]; exact hz), fun z => ?_, fun _ z => absurd z hne, fun _ _ r o' hr ho' => ?_⟩
    · subst z; cases g2; exact q p' o xs' H3 (e2.trans e3) g1' ho g2'
    · exact q r o' _ _ ((e2.trans e3).trans (Ex.new hr)) upd_same ho' ((g2.append g2').mono (Ex.new hr))
theorem ef_cat2 (ha : EvF ta σ H ds) (hb : EvD tb σ H (.tuple es)) (hd : ds ≠ []) (hz : ds.length + es.length ≤ 100000) : EvF (tOp (rCatF K) ta tb) σ H (ds ++ es) := fun H1 e Q q =>
  ha H1 e _ fun p o xs H2 e2 g1 ho g2 => hb H2 (e.trans e2) _ fun y H3 e3 iy => by
    obtain ⟨p', xs', rfl, g1', g2'⟩ := iy.t
    have g1 := e3 _ _ g1
    have g2 := g2.mono e3
    have hne : xs ≠ [] := fun z => by subst z; cases g2; exact hd rfl
    refine ⟨p, p', xs, xs', rfl, rfl, .inl (.inr ⟨o, g1⟩), SqT.of g1', sz_of (by rw [g2.length, g2'.length]; exact hz), fun z => absurd z hne, fun _ z => ?_, fun _ _ r o' hr ho' => ?_⟩
    · subst z; cases g2'; rw [List.append_nil] at q; exact q p o xs H3 (e2.trans e3) g1 ho g2
    · exact q r o' _ _ ((e2.trans e3).trans (Ex.new hr)) upd_same ho' ((g2.append g2').mono (Ex.new hr))
/-- the pairs of texts and data -/
theorem pairs_at {α : Type} {e2 : α → PyData} {n : α → Str} : ∀ {l : List α} {xs : List V}, Ims H xs (l.map fun a => .tuple [.str (n a), e2 a]) →
    ∃ (ps : List Addr) (kvs : List (Key × V)), xs = ps.map V.ref ∧ Paired (fun p kv => SqT K H p [kV kv.1, kv.2]) ps kvs ∧ kvs.length = l.length ∧ ∀ q ∈ kvs, ∃ a ∈ l, q.1 = .inr (n a) ∧ Im H q.2 (e2 a)
  | [], _, h => by cases h; exact ⟨[], [], rfl, .nil, rfl, fun q hq => by cases hq⟩
  | a :: l, _, h => by
    cases h with
    | cons h1 h2 =>
      obtain ⟨ps, kvs, rfl, hp, hl, hm⟩ := pairs_at h2
      obtain ⟨p, ys, rfl, g1, g2⟩ := h1.t
      obtain ⟨u, v, rfl, iu, iv⟩ := g2.two
      rw [iu.s] at g1
      refine ⟨p :: ps, (.inr (n a), v) :: kvs, rfl, .cons (SqT.of g1) hp, by rw [List.length_cons, List.length_cons, hl], fun q hq => ?_⟩
      rcases List.mem_cons.mp hq with rfl | hq
      · exact ⟨a, List.mem_cons_self .., rfl, iv⟩
      · obtain ⟨b, hb, r⟩ := hm q hq
        exact ⟨b, List.mem_cons_of_mem _ hb, r⟩
theorem mem_putK {kvs : List (Key × V)} {k : Key} {v : V} {q : Key × V} (h : q ∈ putK kvs k v) : q ∈ kvs ∨ q = (k, v) := by
  unfold putK at h
  split at h
  · obtain ⟨r, hr, e⟩ := List.mem_map.mp h
    by_cases c : r.1 = k
    · rw [if_pos c] at e; right; rw [← e, c]
    · rw [if_neg c] at e; left; rw [← e]; exact hr
  · rcases List.mem_append.mp h with h | h
    · exact .inl h
    · exact .inr (by simpa using h)
theorem mem_mergeK : ∀ {more kvs : List (Key × V)} {q : Key × V}, q ∈ mergeK kvs more → q ∈ kvs ∨ q ∈ more
  | [], _, _, h => .inl h
  | p :: more, kvs, q, h => by
    have h' : q ∈ mergeK (putK kvs p.1 p.2) more := h
    rcases mem_mergeK h' with h | h
    · rcases mem_putK h with h | h
      · exact .inl h
      · exact .inr (by rw [h]; exact List.mem_cons_self ..)
    · exact .inr (List.mem_cons_of_mem _ h)
theorem putK_ne {kvs : List (Key × V)} {k : Key} {v : V} : putK kvs k v ≠ [] := by
  unfold putK
  split
  · rename_i c
    intro z
    cases kvs with
    | nil => simp at c
    | cons a l => simp at z
  · simp
theorem mergeK_ne : ∀ {more kvs : List (Key × V)}, kvs ≠ [] → mergeK kvs more ≠ []
  | [], _, h => h
  | p :: more, kvs, h => by
    show mergeK (putK kvs p.1 p.2) more ≠ []
    exact mergeK_ne putK_ne
/-- tuple(dict(t).items()): rows that are rows of t -/
theorem ep_dictItems {α : Type} {e2 : α → PyData} {n : α → Str} {l : List α} (h : EvF te σ H (l.map fun a => .tuple [.str (n a), e2 a])) (hl : l ≠ []) :
    EvP (tTupItems (tCB (rDictF K) (tCons te tNil))) σ H fun d => ∃ l' : List α, l'.length ≤ l.length ∧ (∀ a ∈ l', ∃ b ∈ l, n a = n b ∧ a = b) ∧ d = .tuple (l'.map fun a => .tuple [.str (n a), e2 a]) := fun H1 e Q q => by
  refine h H1 e _ fun p o xs H2 e2' g1 ho g2 => ?_
  obtain ⟨ps, kvs, rfl, hp, hkl, hm⟩ := pairs_at (K := K) g2
  refine ⟨p, o, ps, kvs, rfl, g1, ho, hp, fun r hr => ?_⟩
  have hk : kvs ≠ [] := fun z => by
    subst z
    exact hl (List.length_eq_zero_iff.mp hkl.symm)
  refine ⟨r, mergeK [] kvs, rfl, ?_, upd_same, fun H' p' ts ex hn ht hpr => ?_⟩
  · cases kvs with
    | nil => exact absurd rfl hk
    | cons a kvs =>
      show mergeK (putK [] a.1 a.2) kvs ≠ []
      exact mergeK_ne putK_ne
  · have e3 : Ex H2 H' := fun a u ha => ex a u ((Ex.new hr) a u ha)
    have key : ∀ (ms : List (Key × V)) (ts : List Addr), (∀ q ∈ ms, q ∈ kvs) → Paired (fun (t : Addr) (q : Key × V) => H' t = some (.tup [kV q.1, q.2])) ts ms →
        ∃ l' : List α, l'.length = ms.length ∧ (∀ a ∈ l', a ∈ l) ∧ Ims H' (ts.map V.ref) (l'.map fun a => .tuple [.str (n a), e2 a]) := by
      intro ms
      induction ms with
      | nil => intro ts _ hq; cases hq; exact ⟨[], rfl, fun a ha => (by cases ha), .nil⟩
      | cons q ms ih =>
        intro ts hin hq
        cases hq with
        | cons hq1 hq2 =>
          obtain ⟨l', h1, h2, h3⟩ := ih _ (fun q hq => hin q (List.mem_cons_of_mem _ hq)) hq2
          obtain ⟨a, ha, e1, ia⟩ := hm q (hin q (List.mem_cons_self ..))
          rw [e1] at hq1
          refine ⟨a :: l', by rw [List.length_cons, List.length_cons, h1], fun b hb => ?_, .cons (.tup hq1 (.cons (.str _) (.cons (ia.mono e3) .nil))) h3⟩
          rcases List.mem_cons.mp hb with rfl | hb
          · exact ha
          · exact h2 b hb
    obtain ⟨l', h1, h2, h3⟩ := key _ _ (fun q hq => (mem_mergeK hq).resolve_left (by simp)) hpr
    refine q _ _ H' (e2'.trans e3) ⟨l', ?_, fun a ha => ⟨a, h2 a ha, rfl, rfl⟩, rfl⟩ (.tup ht h3)
    rw [h1, ← hkl]
    have := length_mergeK kvs []
    simpa using this
theorem ed_cnt {ss : List Str} {k : Str} (h : EvD to σ H (.list (ss.map .str))) (h2 : EvD te σ H (.str k)) : EvD (tBM K "list" (rCntS K) to (tCons te tNil)) σ H (.int (ss.countP fun n => decide (n = k) : Nat)) := fun H1 e Q q =>
  h H1 e _ fun v H2 e2 iv => by
    obtain ⟨p, xs, rfl, g1, g2⟩ := iv.l
    have ex := g2.strs
    subst ex
    refine ⟨Or.inl ⟨rfl, _, SqL.of g1⟩, h2 H2 (e.trans e2) _ fun w H3 e3 iw => ⟨p, ss, k, rfl, by rw [iw.s], SqL.of (e3 _ _ g1), q _ H3 (e2.trans e3) (.int _)⟩⟩
theorem enp_sorted {ss : List Str} (h : EvD te σ H (.list (ss.map .str))) (h64 : ss.length < 64) : EvNP (tCB (rSortedS K) (tCons te tNil)) σ H fun ds => ∃ ys : List Str, ds = ys.map .str ∧ ys.Perm ss ∧ sortedS ys = true := fun H1 e Q q =>
  h H1 e _ fun v H2 e2 iv => by
    obtain ⟨p, xs, rfl, g1, g2⟩ := iv.l
    have ex := g2.strs
    subst ex
    exact ⟨p, ss, rfl, SqL.of g1, h64, fun ys r hp hs hr => q r _ _ _ (fresh_back e2 hr) (e2.trans (Ex.new hr)) ⟨ys, rfl, hp, hs⟩ upd_same (Ims.ofStrs ys)⟩
variable {P P' : PyData → Prop}
theorem ep_callQ {R : List PyData → PyData → Prop} {E : XK} {ta : TA} {PA : List PyData → Prop} (h : ∀ H1, Ex H H1 → ∀ Q : List V → Hp → Prop, (∀ vs ds H2, Ex H1 H2 → PA ds → Ims H2 vs ds → Q vs H2) → ta σ H1 Q) (hd : ∀ ds, PA ds → ∃ d, R ds d ∧ P d) : EvP (tCall (SpQ R) [] E ta) σ H P := fun H1 e Q q =>
  h H1 e _ fun vs ds H2 e2 pa i2 => by
    obtain ⟨d, r, p⟩ := hd ds pa
    exact ⟨ds, d, by rw [List.append_nil]; exact i2, r, fun v H3 e3 i3 => q v d H3 (e2.trans e3) p i3⟩
theorem ea_one (h : EvP te σ H P) : ∀ H1, Ex H H1 → ∀ Q : List V → Hp → Prop, (∀ vs ds H2, Ex H1 H2 → (∃ d, ds = [d] ∧ P d) → Ims H2 vs ds → Q vs H2) → tCons te tNil σ H1 Q := fun H1 e Q q =>
  h H1 e _ fun v d H2 e2 p iv => q _ _ H2 e2 ⟨d, rfl, p⟩ (.cons iv .nil)
theorem EvD.p (h : EvD te σ H d) (hp : P d) : EvP te σ H P := fun H1 e Q q => h H1 e Q fun v H2 e2 iv => q v d H2 e2 hp iv
theorem EvP.w (h : EvP te σ H P) (hp : ∀ d, P d → P' d) : EvP te σ H P' := fun H1 e Q q => h H1 e Q fun v d H2 e2 p iv => q v d H2 e2 (hp d p) iv
theorem ex_B {PB : Bool → Prop} (h : EvP te σ H fun d => ∃ b, d = .bool b ∧ PB b) : EvX (tB te) σ H PB := fun H1 e Q q => h H1 e _ fun v d H2 e2 ⟨b, ed, p⟩ iv => by
  subst ed
  exact ⟨b, iv.b, q b H2 e2 p⟩
theorem ex_T {PB : Bool → Prop} (h : EvP te σ H fun d => ∃ b, d = .bool b ∧ PB b) : EvX (tTest te) σ H PB := fun H1 e Q q => h H1 e _ fun v d H2 e2 ⟨b, ed, p⟩ iv => by
  subst ed
  exact ⟨b, iv.b, q b H2 e2 p⟩
theorem EvT.ex {b : Bool} {PB : Bool → Prop} (h : EvT t σ H b) (hp : PB b) : EvX t σ H PB := fun H1 e Q q => h H1 e Q fun H2 e2 => q b H2 e2 hp
theorem ex_or {PA PB PC : Bool → Prop} (h1 : EvX t σ H PA) (h2 : PA false → EvX u σ H PB) (ht : PA true → PC true) (hf : ∀ b, PA false → PB b → PC b) : EvX (tOr t u) σ H PC := fun H1 e Q q => h1 H1 e _ fun b H2 e2 p => by
  cases b with
  | true =>
    show Q true H2
    exact q true H2 e2 (ht p)
  | false =>
    show u σ H2 Q
    exact h2 p H2 (e.trans e2) Q fun b H3 e3 p3 => q b H3 (e2.trans e3) (hf b p p3)
theorem ex_and {PA PB PC : Bool → Prop} (h1 : EvX t σ H PA) (h2 : PA true → EvX u σ H PB) (hf : PA false → PC false) (ht : ∀ b, PA true → PB b → PC b) : EvX (tAnd t u) σ H PC := fun H1 e Q q => h1 H1 e _ fun b H2 e2 p => by
  cases b with
  | false =>
    show Q false H2
    exact q false H2 e2 (hf p)
  | true =>
    show u σ H2 Q
    exact h2 p H2 (e.trans e2) Q fun b H3 e3 p3 => q b H3 (e2.trans e3) (ht b p p3)
theorem ex_not {PA : Bool → Prop} (h1 : EvX t σ H PA) : EvX (tNot t) σ H (fun b => PA (!b)) := fun H1 e _ q => h1 H1 e _ fun b H2 e2 p => q (!b) H2 e2 (by show PA (!(!b)); rw [Bool.not_not]; exact p)
theorem mk_fP {ta : TA} {C : Addr} {f : Str} {Q : XK} (h : ∀ H1, Ex H H1 → ∀ Q : List V → Hp → Prop, (∀ vs ds H2, Ex H1 H2 → (∃ d, ds = [d] ∧ P d) → Ims H2 vs ds → Q vs H2) → ta σ H1 Q) (k : ∀ v d dd H2, Ex H H2 → P d → Im H2 v d → H2 dd = some (.xd [(f, v)]) → Q (.ref C) (some dd) H2) : tMkO C (sp_fld C f) [] ta σ H Q := by
  refine h H (Ex.refl H) _ fun vs ds H1 e1 ⟨d, ed, p⟩ iv => ?_
  subst ed
  obtain ⟨v, rfl, i1⟩ := iv.one
  exact mk_f (σ := []) (d := d) (ta := tCons (tC v) tNil) (H := H1) (ea1 (ed_c i1) ea0) (fun v' dd H2 e2 iv' hdd => k v' d dd H2 (e1.trans e2) p iv' hdd)
variable {D : Ends} {tu tz : TS}
theorem q_whenX {PB : Bool → Prop} (h : EvX t σ H PB) (h1 : PB true → ∀ H1, Ex H H1 → tu { D with nx := tz D } σ H1) (h2 : PB false → ∀ H1, Ex H H1 → tz D σ H1) : tSeq (tIfS t tu tNext) tz D σ H := h H (Ex.refl H) _ fun b H1 e p => by
  cases b with
  | true =>
    show tu _ σ H1
    exact h1 p H1 e
  | false =>
    show tz D σ H1
    exact h2 p H1 e
theorem s_whenX {PB : Bool → Prop} (h : EvX t σ H PB) (h1 : PB true → ∀ H1, Ex H H1 → tu D σ H1) (h2 : PB false → ∀ H1, Ex H H1 → D.nx σ H1) : tIfS t tu tNext D σ H := h H (Ex.refl H) _ fun b H1 e p => by
  cases b with
  | true =>
    show tu _ σ H1
    exact h1 p H1 e
  | false =>
    show D.nx σ H1
    exact h2 p H1 e
theorem q_asgP {i : Nat} (h : EvP te σ H P) (k : ∀ v d H1, Ex H H1 → P d → Im H1 v d → tz D (σ.set i (some v)) H1) : tSeq (tAsg te (gName i)) tz D σ H := h H (Ex.refl H) _ fun v d H1 e p iv => k v d H1 e p iv
theorem q_asgNP {i : Nat} {PL : List PyData → Prop} (h : EvNP te σ H PL) (k : ∀ p xs ds H1, H p = none → Ex H H1 → PL ds → H1 p = some (.lst xs) → Ims H1 xs ds → tz D (σ.set i (some (.ref p))) H1) : tSeq (tAsg te (gName i)) tz D σ H := h H (Ex.refl H) _ fun p xs ds H1 n e pl a b => k p xs ds H1 n e pl a b
theorem EvNP.toP {PL : List PyData → Prop} (h : EvNP te σ H PL) : EvP te σ H fun d => ∃ ds, d = .list ds ∧ PL ds := fun H1 e Q q => h H1 e Q fun p xs ds H2 n e2 pl a b => q _ _ H2 e2 ⟨ds, rfl, pl⟩ (.lst a b)
end
end Pd
set_option Elab.async false
set_option linter.all false
set_option maxRecDepth 100000
set_option maxHeartbeats 2000000
/-! Dt: ints, lists that change, the tape. -/
namespace Pd
open PySem PyProof.Rows L2 Evl
section
variable {K : PySem.W.Frag} {σ : L2.St} {H H' : Hp} {ta tb te tx tl to : TE} {t u : TT} {x y z v : V} {d d' e' : PyData} {ds es : List PyData}
abbrev rInt1 : List V → Hp → VK → Prop := fun xs H Q => (∃ i, xs = [.int i] ∧ Q (.int i) H) ∨ ∃ k, xs = [.bl k] ∧ Q (.int (if k then 1 else 0)) H
theorem ed_int1 {i : Int} (h : EvD te σ H (.int i)) : EvD (tCB rInt1 (tCons te tNil)) σ H (.int i) :=
  ed_cb (ea1 h ea0) fun vs H1 e iv Q q => by
    obtain ⟨v, rfl, i1⟩ := iv.one
    rw [i1.i]
    exact .inl ⟨i, rfl, q _ H1 (Ex.refl H1) (.int _)⟩
abbrev rAbs : List V → Hp → VK → Prop := fun xs H Q => ∃ i, xs = [.int i] ∧ Q (.int (if i < 0 then -i else i)) H
theorem ed_abs {i : Int} (h : EvD te σ H (.int i)) : EvD (tCB rAbs (tCons te tNil)) σ H (.int (if i < 0 then -i else i)) :=
  ed_cb (ea1 h ea0) fun vs H1 e iv Q q => by
    obtain ⟨v, rfl, i1⟩ := iv.one
    rw [i1.i]
    exact ⟨i, rfl, q _ H1 (Ex.refl H1) (.int _)⟩
theorem Ims.ofInts : ∀ ss : List Int, Ims H (ss.map V.int) (ss.map PyData.int)
  | [] => .nil
  | s :: ss => .cons (.int s) (Ims.ofInts ss)
theorem Ims.ints : ∀ {ss : List Int} {vs : List V}, Ims H vs (ss.map PyData.int) → vs = ss.map V.int
  | [], _, h => by cases h; rfl
  | s :: ss, _, h => by cases h with | cons h1 h2 => rw [h1.i, Ims.ints h2]; rfl
/-- over a list that is read: of the script, too -/
theorem wk_sq {a : Addr} {xs : List V} (h : Ev tl σ H (.ref a)) (hx : SqL K H a xs) (g2 : Ims H xs ds) : Wk (iList K tl) σ H ds := fun H1 e R r =>
  h H1 e _ fun H2 e2 => by
    have hx := ex_l (e.trans e2) hx
    have g2 := g2.mono (e.trans e2)
    refine ⟨a, rfl, ⟨xs, hx⟩, r _ H2 (fun H => SqL K H a xs) (YAt xs) e2 (by rw [← g2.length]; exact walk_list) (fun H3 e3 => ex_l e3 hx) fun i H3 x H4 e3 yy => ?_⟩
    obtain ⟨rfl, hx⟩ := yy
    obtain ⟨d, hd, im⟩ := (g2.mono e3).get hx
    exact ⟨Ex.refl _, d, hd, im⟩
theorem Wk.m {wi : TI} {src : List PyData} (h : Wk wi σ H src) : WkM [] wi σ H src := fun H1 e R r => h H1 e R fun J H2 G Y e2 W hG hY => r J H2 G Y e2 W (fun H3 e3 => hG H3 e3.ex) fun i H3 x H4 e3 yy => hY i H3 x H4 e3.ex yy
theorem WkM.wk {wi : TI} {src : List PyData} (h : WkM [] wi σ H src) : Wk wi σ H src := fun H1 e R r => h H1 e R fun J H2 G Y e2 W hG hY => r J H2 G Y e2 W (fun H3 e3 => hG H3 (ExM.of e3)) fun i H3 x H4 e3 yy => hY i H3 x H4 (ExM.of e3) yy
/-! ### frames -/
theorem ExM.mut {M : List Addr} {p : Addr} {o : HO} (e : ExM M H H') (h : H p = none) : ExM M H (L2.upd H' p o) :=
  ⟨fun a u n ha => by rw [upd_ne (fun z => by rw [z, h] at ha; cases ha)]; exact e.1 a u n ha, fun a xs ha => by rw [upd_ne (fun z => by rw [z, h] at ha; cases ha)]; exact e.2 a xs ha⟩
theorem ExM.fresh {M : List Addr} {p : Addr} (e : ExM M H H') (hM : p ∉ M) (h : H' p = none) : H p = none := by
  cases c : H p with
  | none => rfl
  | some o => rw [e.1 p o hM c] at h; cases h
/-- the tape: a list at t of the list of numbers at c, and the seed -/
structure Tape (t c : Addr) (H : Hp) : Prop where
  ne : t ≠ c
  at_t : ∃ s : Int, H t = some (.lst [.ref c, .int s]) ∧ 0 ≤ s ∧ s ≤ 2147483647
  at_c : ∃ ns : List Int, H c = some (.lst (ns.map V.int)) ∧ ns.length ≤ 63 ∧ ∀ n ∈ ns, 0 ≤ n
theorem Tape.ex {t c : Addr} (T : Tape t c H) (e : Ex H H') : Tape t c H' := by
  obtain ⟨ne, ⟨s, h1, h2⟩, ⟨ns, h3, h4⟩⟩ := T
  exact ⟨ne, ⟨s, e _ _ h1, h2⟩, ⟨ns, e _ _ h3, h4⟩⟩
theorem Tape.upd {t c p : Addr} {o : HO} (T : Tape t c H) (h1 : p ≠ t) (h2 : p ≠ c) : Tape t c (L2.upd H p o) := by
  obtain ⟨ne, ⟨s, g1, g2⟩, ⟨ns, g3, g4⟩⟩ := T
  exact ⟨ne, ⟨s, by rw [upd_ne (fun z => h1 z.symm)]; exact g1, g2⟩, ⟨ns, by rw [upd_ne (fun z => h2 z.symm)]; exact g3, g4⟩⟩
theorem Tape.some_t {t c : Addr} (T : Tape t c H) : H t ≠ none := by
  obtain ⟨_, ⟨s, h1, _⟩, _⟩ := T
  rw [h1]; simp
theorem Tape.some_c {t c : Addr} (T : Tape t c H) : H c ≠ none := by
  obtain ⟨_, _, ⟨s, h1, _⟩⟩ := T
  rw [h1]; simp
theorem Tape.notin {t c p : Addr} (T : Tape t c H) (h : H p = none) : p ∉ [t, c] := fun z => by
  rcases List.mem_cons.mp z with rfl | z
  · exact T.some_t h
  · rcases List.mem_cons.mp z with rfl | z
    · exact T.some_c h
    · cases z
/-- later: what is not the tape stays, the tape stays one -/
def Go (t c : Addr) (H H' : Hp) : Prop := ExM [t, c] H H' ∧ Tape t c H'
theorem Go.trans {t c : Addr} {H1 : Hp} (a : Go t c H H1) (b : Go t c H1 H') : Go t c H H' := ⟨a.1.trans b.1, b.2⟩
theorem Go.of {t c : Addr} (T : Tape t c H) (e : Ex H H') : Go t c H H' := ⟨ExM.of e, T.ex e⟩
theorem Go.ex {t c : Addr} {H1 : Hp} (a : Go t c H H1) (e : Ex H1 H') : Go t c H H' := ⟨a.1.trans (ExM.of e), a.2.ex e⟩
theorem Go.refl {t c : Addr} (T : Tape t c H) : Go t c H H := ⟨ExM.refl _ _, T⟩
theorem Go.at {t c p : Addr} {o : HO} (g : Go t c H H') (hp : p ∉ [t, c]) (h : H p = some o) : H' p = some o := g.1.1 p o hp h
theorem Go.im {t c : Addr} (g : Go t c H H') (s : still d = true) (h : Im H v d) : Im H' v d := h.tx g.1.2 s
/-- one whole number below m is drawn -/
def sp_draw : Sp := fun vs H Q _ => ∃ (t c : Addr) (m : Nat), vs = [.ref t, .int (m : Nat)] ∧ Tape t c H ∧ 1 ≤ m ∧ m ≤ 1000 ∧ ∀ r : Nat, r < m → ∀ H', Go t c H H' → Q (.int (r : Nat)) H'
def sp_tape (K : PySem.W.Frag) : Sp := fun vs H Q _ => ∃ (a : Addr) (ns : List Int), vs = [.ref a] ∧ SqL K H a (ns.map V.int) ∧ ns.length ≤ 63 ∧ ∀ t c H', Ex H H' → Tape t c H' → Q (.ref t) H'
def sp_pick : Sp := fun vs H Q _ => ∃ (t c p : Addr) (xs : List V), vs = [.ref t, .ref p] ∧ Tape t c H ∧ p ∉ [t, c] ∧ H p = some (.lst xs) ∧ xs ≠ [] ∧ xs.length ≤ 1000 ∧ ∀ (i : Nat) (x : V), xs[i]? = some x → ∀ H', Go t c H H' → Q x H'
theorem drawn {it : Nat} {t c : Addr} {m : Nat} {Q : VK} {E : XK} (ht : σ[it]? = some (some (.ref t))) (T : Tape t c H) (hm : EvD tb σ H (.int (m : Nat))) (h1 : 1 ≤ m) (h2 : m ≤ 1000) (k : ∀ r : Nat, r < m → ∀ H', Go t c H H' → Q (.int (r : Nat)) H') :
    tCall sp_draw [] E (tCons (tVar it) (tCons tb tNil)) σ H Q := (ea_cons (ev_var ht) (ea_cons hm.evI ea_nil)) H (Ex.refl H) _ fun H2 e2 =>
  ⟨t, c, m, rfl, T.ex e2, h1, h2, fun r hr H' g => k r hr H' ((Go.of T e2).trans g)⟩
theorem picked {it : Nat} {t c p : Addr} {xs : List V} {Q : VK} {E : XK} (ht : σ[it]? = some (some (.ref t))) (T : Tape t c H) (hp : Ev tb σ H (.ref p)) (hn : p ∉ [t, c]) (hx : H p = some (.lst xs)) (h1 : xs ≠ []) (h2 : xs.length ≤ 1000) (k : ∀ (i : Nat) (x : V), xs[i]? = some x → ∀ H', Go t c H H' → Q x H') :
    tCall sp_pick [] E (tCons (tVar it) (tCons tb tNil)) σ H Q := (ea_cons (ev_var ht) (ea_cons hp ea_nil)) H (Ex.refl H) _ fun H2 e2 =>
  ⟨t, c, p, xs, rfl, T.ex e2, hn, e2 _ _ hx, h1, h2, fun i x hx H' g => k i x hx H' ((Go.of T e2).trans g)⟩
variable {D : Ends}
theorem s_pop0 {l : Addr} {xs : List V} (hl : H l = some (.lst (x :: xs))) (ha : Ev ta σ H (.ref l)) (h : Ev te σ H (.int 0)) (k : ∀ H1, Ex H H1 → D.nx σ (L2.upd H1 l (.lst xs))) : tDrop (tBM K "list" rPopAt ta (tCons te tNil)) D σ H :=
  ha H (Ex.refl H) _ fun H1 e1 => ⟨Or.inl ⟨rfl, _, sq_of (e1 l _ hl)⟩, h H1 e1 _ fun H2 e2 => ⟨l, x :: xs, 0, 0, x, rfl, rfl, (e1.trans e2) l _ hl, by decide, by decide, by simp [seqIndex?], rfl, k H2 (e1.trans e2)⟩⟩
/-- one operand, then the other -/
theorem op_run {r : R2} {Q : VK} (ha : Ev ta σ H x) (k : ∀ H1, Ex H H1 → tb σ H1 fun y H2 => r x y H2 Q) : tOp r ta tb σ H Q := ha H (Ex.refl H) _ k
theorem s_retOp {r : R2} (ha : Ev ta σ H x) (k : ∀ H1, Ex H H1 → tb σ H1 fun y H2 => r x y H2 D.rt) : tRet (tOp r ta tb) D σ H := ha H (Ex.refl H) _ k
end
end Pd
set_option Elab.async false
set_option linter.all false
set_option maxRecDepth 100000
set_option maxHeartbeats 2000000
/-! Dt2: draws within expressions. -/
namespace Pd
open PySem PyProof.Rows L2 Evl
theorem Go.mut {t c p : Addr} {o : HO} {H H' : Hp} (g : Go t c H H') (T : Tape t c H) (hp : H p = none) : Go t c H (L2.upd H' p o) := by
  have n := T.notin hp
  refine ⟨g.1.mut hp, g.2.upd (fun z => n (by rw [z]; simp)) (fun z => n (by rw [z]; simp))⟩
section
variable {K : PySem.W.Frag} {σ : L2.St} {H H' : Hp} {ta tb te tx tl to : TE} {t u : TT} {x y z v : V} {d d' e' : PyData} {ds es : List PyData} {D : Ends} {tu tz : TS}
theorem sl_runN {th : TO} {Q : VK} (h : EvN te σ H ds) (k : ∀ p xs H1, H p = none → Ex H H1 → H1 p = some (.lst xs) → Ims H1 xs ds → th σ H1 fun hi H2 => rSlL K (.ref p) none hi H2 Q) : tSl (rSlL K) te tNoPart th σ H Q := h H (Ex.refl H) _ fun p xs H1 n e a b => k p xs H1 n e a b
/-- 1 + a drawn number -/
theorem one_more {t c : Addr} {m : Nat} {Q : VK} {E : XK} (ht : σ[0]? = some (some (.ref t))) (T : Tape t c H) (h1 : 1 ≤ m) (h2 : m ≤ 1000) (k : ∀ r : Nat, r < m → ∀ H', Go t c H H' → Q (.int ((1 + r : Nat) : Int)) H') :
    tOp (rI0 fun i j => .int (i + j)) (tC (.int 1)) (tCall sp_draw [] E (tCons (tVar 0) (tCons (tC (.int (m : Nat))) tNil))) σ H Q :=
  op_run ev_c fun H1 e1 => drawn ht (T.ex e1) (ed_i _) h1 h2 fun r hr H' g => ⟨1, r, rfl, rfl, by
    have := k r hr H' ((Go.of T e1).trans g)
    have e : ((1 + r : Nat) : Int) = 1 + (r : Int) := by omega
    rw [e] at this
    exact this⟩
/-- a drawn number == 0 -/
theorem draw_zero {t c : Addr} {m : Nat} {Q : Bool → Hp → Prop} {E : XK} (ht : σ[0]? = some (some (.ref t))) (T : Tape t c H) (h1 : 1 ≤ m) (h2 : m ≤ 1000) (k : ∀ (b : Bool) H', Go t c H H' → Q b H') :
    tTest (tOp rEq (tCall sp_draw [] E (tCons (tVar 0) (tCons (tC (.int (m : Nat))) tNil))) (tC (.int 0))) σ H Q :=
  drawn ht T (ed_i _) h1 h2 fun r hr H' g => ⟨rfl, decide (V.int (r : Nat) = V.int 0), rfl, k _ H' g⟩
/-- [x for x in l if a drawn number is 0] -/
theorem lc_draws {t c : Addr} {m j : Nat} {vs : List Nat} {l : List Str} {Q : VK} {E : XK} (hl : EvN tl σ H (l.map .str)) (hz : l.length ≤ 1000) (T : Tape t c H) (h1 : 1 ≤ m) (h2 : m ≤ 1000)
    (ht : ∀ x, ((wipe σ vs).set j (some x))[0]? = some (some (.ref t))) (hj : ∀ x, ((wipe σ vs).set j (some x))[j]? = some (some x)) (hw : ∀ x, wipe ((wipe σ vs).set j (some x)) vs = wipe σ vs)
    (k : ∀ p (ws : List Str) H', Go t c H H' → H p = none → ws.Sublist l → H' p = some (.lst (ws.map V.str)) → Q (.ref p) H') :
    tLc (iList K tl) (gName j) (tTest (tOp rEq (tCall sp_draw [] E (tCons (tVar 0) (tCons (tC (.int (m : Nat))) tNil))) (tC (.int 0)))) (tVar j) vs σ H Q := by
  refine hl H (Ex.refl H) _ fun p0 xs H2 n0 e2 g1 g2 => ?_
  have exs := g2.strs
  subst exs
  have T2 := T.ex e2
  have np0 : p0 ∉ [t, c] := T.notin n0
  refine ⟨p0, rfl, ⟨l.map V.str, SqL.of g1⟩, fun Dl hD => ?_⟩
  have W := walk_list (K := K) (a := p0) (xs := l.map V.str)
  refine lc_it W (fun i H' => Go t c H2 H' ∧ ∃ acc : List Str, acc.Sublist (l.take i) ∧ acc.length ≤ i ∧ H' Dl = some (.lst (acc.map V.str)))
    ⟨(Go.refl T2).mut T2 hD, [], List.nil_sublist _, Nat.le_refl _, upd_same⟩ (fun i H' _ p => SqL.of (p.1.at np0 g1)) (fun i x H3 H4 hi p y => ?_) fun H' p => ?_
  · obtain ⟨rfl, hx⟩ := y
    obtain ⟨g, acc, q1, q2, q3⟩ := p
    rw [List.getElem?_map] at hx
    obtain ⟨s, hs, rfl⟩ : ∃ s, l[i]? = some s ∧ V.str s = x := by
      cases e : l[i]? with
      | none => rw [e] at hx; cases hx
      | some r => rw [e] at hx; exact ⟨r, rfl, Option.some.inj hx⟩
    refine ⟨hw _, draw_zero (ht _) g.2 h1 h2 fun b H5 g5 => ?_⟩
    have D5 : H5 Dl = some (.lst (acc.map V.str)) := g5.at (T2.notin hD) q3
    have g25 := g.trans g5
    cases b with
    | true =>
      refine ⟨.str s, hj _, acc.map V.str, D5, ?_, g25.mut T2 hD, acc ++ [s], ?_, by rw [List.length_append]; show _ + 1 ≤ _; omega, by rw [List.map_append]; exact upd_same⟩
      · have : i < (l.map V.str).length := hi
        rw [List.length_map] at this
        exact sz_lt (by rw [List.length_map]; omega)
      · rw [take_more hs]
        exact List.Sublist.append q1 (List.Sublist.refl _)
    | false =>
      show Go t c H2 H5 ∧ _
      refine ⟨g25, acc, ?_, by omega, D5⟩
      rw [take_more hs]
      exact q1.trans (List.sublist_append_left _ _)
  · obtain ⟨g, acc, q1, q2, q3⟩ := p
    rw [List.length_map, List.take_length] at q1
    exact k Dl acc H' ((Go.of T e2).trans g) (fresh_back e2 hD) q1 q3
/-- what is walked, with all that the walk's making does -/
def Run (wi : TI) (σ : L2.St) (H : Hp) (M : List Addr) (C : List PyData → Hp → Prop) : Prop := ∀ R : It → Hp → Prop,
  (∀ J H2 G Y src, C src H2 → Walk J src.length G Y → (∀ H3, ExM M H2 H3 → G H3) → (∀ i H3 x H4, ExM M H2 H3 → Y i H3 x H4 → Ex H3 H4 ∧ ∃ d, src[i]? = some d ∧ Im H4 x d) → R J H2) → wi σ H R
theorem run_range {M : List Addr} {ta : TA} {C : List PyData → Hp → Prop} (h : ∀ Q : List V → Hp → Prop, (∀ (n : Nat) H1, n ≤ 100000 → C ((List.range n).map fun i => .int (i : Nat)) H1 → Q [.int (n : Nat)] H1) → ta σ H Q) : Run (iRng1 ta) σ H M C := fun R r => by
  refine h _ fun n H2 hn hc => ⟨(n : Int), rfl, by omega, by omega, r _ H2 (fun _ => True) (fun i H x H' => i < n ∧ H' = H ∧ x = .int (0 + (i : Int))) _ hc (by
      have : ((List.range n).map fun i => PyData.int (i : Nat)).length = (n : Int).toNat := by simp
      rw [this]
      exact ⟨fun _ _ hi _ => hi, fun _ _ => Nat.le_refl _, fun i _ _ _ hi _ y => ⟨by simpa using hi, y.1, y.2⟩⟩) (fun _ _ => trivial) fun i H3 x H4 e3 yy => ?_⟩
  obtain ⟨hi', rfl, rfl⟩ := yy
  have e0 : (0 : Int) + (i : Int) = (i : Int) := Int.zero_add _
  refine ⟨Ex.refl _, .int (i : Nat), ?_, by show Im H4 (.int ((0 : Int) + (i : Int))) _; rw [e0]; exact .int _⟩
  have hi := hi'
  simp [hi]
theorem run_of {wi : TI} {M : List Addr} {src : List PyData} (h : WkM M wi σ H src) : Run wi σ H M (fun s H1 => s = src ∧ Ex H H1) := fun R r => h H (Ex.refl H) R fun J H2 G Y e2 W hG hY => r J H2 G Y src ⟨rfl, e2⟩ W hG hY
/-- THE FOR over what is made, Pv by the turn -/
theorem s_forR {wi : TI} {g : TG} (M : List Addr) {C : List PyData → Hp → Prop} (hk : Run wi σ H M C)
    (h : ∀ src H2, C src H2 → ∃ Pv : Nat → L2.St → Hp → Prop, Pv 0 σ H2 ∧ (∀ i σ' H3 H4, Pv i σ' H3 → Ex H3 H4 → Pv i σ' H4) ∧
      (∀ i d x σ' H3 H4, src[i]? = some d → Ex H3 H4 → Im H4 x d → Pv i σ' H4 → g x σ' H4 fun σ2 H5 => tu { D with nx := fun σ3 H6 => Pv (i + 1) σ3 H6 ∧ ExM M H3 H6, ct := fun σ3 H6 => Pv (i + 1) σ3 H6 ∧ ExM M H3 H6, bk := D.nx } σ2 H5) ∧
      (∀ σ' H', Pv src.length σ' H' → D.nx σ' H')) : tFor wi g tu D σ H := by
  refine hk _ fun J H2 G Y src hc W hG hY => ?_
  obtain ⟨Pv, h0, hm, hs, hd⟩ := h src H2 hc
  refine ⟨fun i m σ' H' => m = src.length - i ∧ i ≤ src.length ∧ Pv i σ' H' ∧ ExM M H2 H', ⟨src.length, by simp, Nat.zero_le _, h0, ExM.refl M H2⟩, ?_⟩
  rintro i m σ' H3 ⟨rfl, hi, p, e3⟩
  by_cases hlt : i < src.length
  · refine .inr ⟨W.goes i H3 hlt (hG H3 e3), fun σ3 H6 => Pv (i + 1) σ3 H6 ∧ ExM M H3 H6, fun σ3 H6 q => ⟨src.length - (i + 1), by omega, rfl, hlt, q.1, e3.trans q.2⟩, fun x H4 y => ?_⟩
    obtain ⟨e34, d, hd', im⟩ := hY i H3 x H4 e3 (W.yields i H3 x H4 hlt (hG H3 e3) y)
    exact hs i d x σ' H3 H4 hd' e34 im (hm i σ' H3 H4 p e34)
  · have e : i = src.length := by omega
    subst e
    exact .inl ⟨W.stops H3 (hG H3 e3), hd σ' H3 p⟩
theorem q_forR {wi : TI} {g : TG} (M : List Addr) {C : List PyData → Hp → Prop} (hk : Run wi σ H M C)
    (h : ∀ src H2, C src H2 → ∃ Pv : Nat → L2.St → Hp → Prop, Pv 0 σ H2 ∧ (∀ i σ' H3 H4, Pv i σ' H3 → Ex H3 H4 → Pv i σ' H4) ∧
      (∀ i d x σ' H3 H4, src[i]? = some d → Ex H3 H4 → Im H4 x d → Pv i σ' H4 → g x σ' H4 fun σ2 H5 => tu { D with nx := fun σ3 H6 => Pv (i + 1) σ3 H6 ∧ ExM M H3 H6, ct := fun σ3 H6 => Pv (i + 1) σ3 H6 ∧ ExM M H3 H6, bk := tz D } σ2 H5) ∧
      (∀ σ' H', Pv src.length σ' H' → tz D σ' H')) : tSeq (tFor wi g tu) tz D σ H := s_forR (D := { D with nx := tz D }) M hk h
variable {P : PyData → Prop}
/-- xs.append(e), e known by what holds of it -/
theorem s_appP {l : Addr} {xs : List V} (hl : H l = some (.lst xs)) (ha : Ev ta σ H (.ref l)) (h : EvP te σ H P) (hs : ∀ d, P d → still d = true) (hz : xs.length < 100000) (k : ∀ v d H1, Ex H H1 → H1 l = some (.lst xs) → P d → Im (L2.upd H1 l (.lst (xs ++ [v]))) v d → D.nx σ (L2.upd H1 l (.lst (xs ++ [v])))) :
    tDrop (tBM K "list" rAppend ta (tCons te tNil)) D σ H := ha H (Ex.refl H) _ fun H1 e1 =>
  ⟨Or.inl ⟨rfl, xs, sq_of (e1 l _ hl)⟩, h H1 e1 _ fun v d H2 e2 p iv => ⟨l, xs, v, rfl, rfl, e2 l _ (e1 l _ hl), sz_lt hz, k v d H2 (e1.trans e2) (e2 l _ (e1 l _ hl)) p (iv.tx (tx_lst (e2 l _ (e1 l _ hl))) (hs d p))⟩⟩
/-- xs.append(a picked one) -/
theorem s_appPick {t c l p : Addr} {xs ys : List V} {E : XK} (hl : H l = some (.lst xs)) (ha : Ev ta σ H (.ref l)) (ht : σ[0]? = some (some (.ref t))) (T : Tape t c H) (hln : l ∉ [t, c]) (hp : Ev tb σ H (.ref p)) (hn : p ∉ [t, c]) (hx : H p = some (.lst ys)) (h1 : ys ≠ []) (h2 : ys.length ≤ 1000) (hz : xs.length < 100000)
    (k : ∀ (i : Nat) (x : V), ys[i]? = some x → ∀ H', Go t c H H' → H' l = some (.lst xs) → D.nx σ (L2.upd H' l (.lst (xs ++ [x])))) :
    tDrop (tBM K "list" rAppend ta (tCons (tCall sp_pick [] E (tCons (tVar 0) (tCons tb tNil))) tNil)) D σ H := ha H (Ex.refl H) _ fun H1 e1 =>
  ⟨Or.inl ⟨rfl, xs, sq_of (e1 l _ hl)⟩, picked ht (T.ex e1) (hp.mono e1) hn (e1 _ _ hx) h1 h2 fun i x hx H' g => ⟨l, xs, x, rfl, rfl, g.at hln (e1 _ _ hl), sz_lt hz, k i x hx H' ((Go.of T e1).trans g) (g.at hln (e1 _ _ hl))⟩⟩
theorem q_asgRun {i : Nat} (h : te σ H fun v H1 => tz D (σ.set i (some v)) H1) : tSeq (tAsg te (gName i)) tz D σ H := h
theorem part_run {Q : Option Int → Hp → Prop} (h : te σ H fun x H1 => ∃ i, x = .int i ∧ Q (some i) H1) : tPart te σ H Q := h
theorem q_or2 {tA tB : TT} {b1 : Bool} (h : EvT tA σ H b1) (h1 : b1 = true → ∀ H1, Ex H H1 → tu { D with nx := tz D } σ H1) (h2 : b1 = false → ∀ H1, Ex H H1 → tB σ H1 fun b H2 => if b = true then tu { D with nx := tz D } σ H2 else tz D σ H2) : tSeq (tIfS (tOr tA tB) tu tNext) tz D σ H := h H (Ex.refl H) _ fun H1 e => by
  cases b1 with
  | true => exact h1 rfl H1 e
  | false => exact h2 rfl H1 e
theorem cutV_to (k : Nat) (ds : List V) : cutV ds none (some (k : Int)) = ds.take k := by
  unfold cutV
  rw [HT.sIx_nat, HT.sIx_none, List.drop_zero, Nat.sub_zero]
  rcases Nat.le_total k ds.length with h | h
  · rw [Nat.min_eq_left h]
  · rw [Nat.min_eq_right h, List.take_of_length_le (Nat.le_refl _), List.take_of_length_le h]
theorem ep_tupOf {PL : List PyData → Prop} (h : EvNP te σ H PL) : EvP (tCB (rTupOf K) (tCons te tNil)) σ H (fun d => ∃ ds, d = .tuple ds ∧ PL ds) := fun H1 e Q q =>
  h H1 e _ fun p xs ds H2 n e2 pl a b => ⟨p, xs, rfl, .inl ⟨SqL.of a, fun l hl => q _ _ _ (e2.trans (Ex.new hl)) ⟨ds, rfl, pl⟩ (.tup upd_same (b.mono (Ex.new hl)))⟩⟩
end
end Pd
set_option Elab.async false
set_option linter.all false
set_option maxRecDepth 100000
set_option maxHeartbeats 2000000
/-! Dt3: what is left beside the tape. -/
namespace Pd
open PySem PyProof.Rows L2 Evl
section
variable {K : PySem.W.Frag} {σ : L2.St} {H H' : Hp} {ta tb te tx tl to : TE} {t u : TT} {x y z v : V} {d d' e' : PyData} {ds es : List PyData} {D : Ends} {tu tz : TS} {tp c : Addr}
theorem call_run {sp : Sp} {E : XK} {ta : TA} {vs : List V} {Q : VK} (h : EvA ta σ H vs) (k : ∀ H1, Ex H H1 → sp (vs ++ []) H1 Q E) : tCall sp [] E ta σ H Q := h H (Ex.refl H) _ k
/-- texts in a list, the tape drawn from meanwhile -/
def EvGL (tp c : Addr) (te : TE) (σ : L2.St) (H : Hp) (P : List Str → Prop) : Prop := ∀ Q : VK, (∀ p ls H2, Go tp c H H2 → H p = none → H2 p = some (.lst (ls.map V.str)) → P ls → Q (.ref p) H2) → te σ H Q
theorem eg_of {ls : List Str} {P : List Str → Prop} (T : Tape tp c H) (h : EvN te σ H (ls.map .str)) (hp : P ls) : EvGL tp c te σ H P := fun Q q => h H (Ex.refl H) Q fun p xs H2 n e a b => by
  have ex := b.strs
  subst ex
  exact q p ls H2 (Go.of T e) n a hp
theorem eg_cat {P P' : List Str → Prop} (ha : EvGL tp c ta σ H P) (T : Tape tp c H) (hb : ∀ H1, Go tp c H H1 → EvGL tp c tb σ H1 P') (hz : ∀ l m, P l → P' m → l.length + m.length ≤ 100000) : EvGL tp c (tOp rCat ta tb) σ H (fun x => ∃ l m, P l ∧ P' m ∧ x = l ++ m) := fun Q q =>
  ha _ fun p ls H1 g n a p1 => hb H1 g _ fun p' ms H2 g' n' a' p2 => by
    have e2 := g'.at (T.notin n) a
    refine ⟨p, p', _, _, rfl, rfl, e2, a', sz_of (by rw [List.length_map, List.length_map]; exact hz _ _ p1 p2), fun r hr => ?_⟩
    refine q r (ls ++ ms) _ ((g.trans g').ex (Ex.new hr)) ?_ (by rw [List.map_append]; exact upd_same) ⟨ls, ms, p1, p2, rfl⟩
    cases c0 : H r with
    | none => rfl
    | some o =>
      by_cases hm : r ∈ [tp, c]
      · exfalso
        have T2 := (g.trans g').2
        rcases List.mem_cons.mp hm with rfl | hm
        · exact T2.some_t hr
        · rcases List.mem_cons.mp hm with rfl | hm
          · exact T2.some_c hr
          · cases hm
      · rw [(g.trans g').at hm c0] at hr
        cases hr
theorem q_asgGL {i : Nat} {P : List Str → Prop} (h : EvGL tp c te σ H P) (k : ∀ p ls H2, Go tp c H H2 → H p = none → H2 p = some (.lst (ls.map V.str)) → P ls → tz D (σ.set i (some (.ref p))) H2) : tSeq (tAsg te (gName i)) tz D σ H := h _ k
/-- arguments of which none is the tape -/
def Off (tp c : Addr) (v : V) : Prop := v ≠ .ref tp ∧ v ≠ .ref c
def EvO1 (tp c : Addr) (te : TE) (σ : L2.St) (H : Hp) (d : PyData) : Prop := ∀ H1, Ex H H1 → ∀ Q : VK, (∀ v H2, Ex H1 H2 → Im H2 v d → Off tp c v → Q v H2) → te σ H1 Q
def EvOs (tp c : Addr) (ta : TA) (σ : L2.St) (H : Hp) (ds : List PyData) : Prop := ∀ H1, Ex H H1 → ∀ Q : List V → Hp → Prop, (∀ vs H2, Ex H1 H2 → Ims H2 vs ds → (∀ v ∈ vs, Off tp c v) → Q vs H2) → ta σ H1 Q
theorem Tape.off {p : Addr} (T : Tape tp c H) (h : H p = none) : Off tp c (.ref p) := by
  have n := T.notin h
  exact ⟨fun z => n (by cases z; simp), fun z => n (by cases z; simp)⟩
theorem eo_new (T : Tape tp c H) (h : EvN te σ H ds) : EvO1 tp c te σ H (.list ds) := fun H1 e Q q => h H1 e Q fun p xs H2 n e2 a b => q _ H2 e2 (.lst a b) ((T.ex e).off n)
theorem eo_tup (T : Tape tp c H) (h : EvD te σ H (.tuple ds)) : EvO1 tp c te σ H (.tuple ds) := fun H1 e Q q => h H1 e Q fun v H2 e2 iv => q v H2 e2 iv (by
  obtain ⟨p, xs, rfl, g1, g2⟩ := iv.t
  have T2 := T.ex (e.trans e2)
  obtain ⟨_, ⟨s, h1, _⟩, ⟨ns, h2, _⟩⟩ := T2
  exact ⟨fun z => (by cases z; rw [g1] at h1; cases h1), fun z => (by cases z; rw [g1] at h2; cases h2)⟩)
theorem eo_non : EvO1 tp c (tC .non) σ H .none := fun H1 e Q q => q _ H1 (Ex.refl H1) .non ⟨fun z => (by cases z), fun z => (by cases z)⟩
theorem EvOs.is {ta : TA} {es : List PyData} (h : EvOs tp c ta σ H ds) (e : ds = es) : EvOs tp c ta σ H es := e ▸ h
theorem eos0 : EvOs tp c tNil σ H [] := fun H1 _ _ q => q _ H1 (Ex.refl H1) .nil (fun v hv => by cases hv)
theorem eos1 {tr : TA} (h : EvO1 tp c ta σ H d) (hr : EvOs tp c tr σ H ds) : EvOs tp c (tCons ta tr) σ H (d :: ds) := fun H1 e _ q =>
  h H1 e _ fun v H2 e2 i2 o2 => hr H2 (e.trans e2) _ fun vs H3 e3 i3 o3 => q _ H3 (e2.trans e3) (.cons (i2.mono e3) i3) (fun w hw => by
    rcases List.mem_cons.mp hw with rfl | hw
    · exact o2
    · exact o3 w hw)
theorem callA {sp : Sp} {E : XK} {ta : TA} {Q : VK} (k : ta σ H fun vs H1 => sp (vs ++ []) H1 Q E) : tCall sp [] E ta σ H Q := k
theorem callSA {sp : Sp} {E : L2.St → XK} {ta : TA} {Q : VK} (k : ta σ H fun vs H1 => sp vs H1 Q (E σ)) : tCallS sp E ta σ H Q := k
theorem q_dropA (k : te σ H fun _ H1 => tz D σ H1) : tSeq (tDrop te) tz D σ H := k
theorem consA {tr : TA} {Q : List V → Hp → Prop} (k : te σ H fun v H1 => tr σ H1 fun vs H2 => Q (v :: vs) H2) : tCons te tr σ H Q := k
theorem lstA {ta : TA} {Q : VK} (k : ta σ H fun xs H1 => xs.length ≤ sizeLine ∧ ∀ p, H1 p = none → Q (.ref p) (L2.upd H1 p (.lst xs))) : tLst ta σ H Q := k
theorem var_run {i : Nat} {Q : VK} (h : σ[i]? = some (some v)) (k : Q v H) : tVar i σ H Q := ⟨v, h, k⟩
/-- one of some is picked: what it is, where -/
inductive Pk (H : Hp) : V → PyData → Prop
  | still {v : V} {d : PyData} : Pd.still d = true → Im H v d → Pk H v d
  | lst {p : Addr} {xs : List V} {ds : List PyData} : H p = some (.lst xs) → stills ds = true → Ims H xs ds → Pk H (.ref p) (.list ds)
theorem Pk.im {v : V} {d : PyData} (h : Pk H v d) : Im H v d := by
  cases h with
  | still _ h => exact h
  | lst h1 _ h2 => exact .lst h1 h2
def flat1 (d : PyData) : Bool := match d with
  | .list ds => stills ds
  | d => Pd.still d
theorem picked_of {it : Nat} {ta : TA} {Q : VK} {E : XK} (ht : σ[it]? = some (some (.ref tp))) (T : Tape tp c H) (h : EvOs tp c ta σ H ds) (h1 : ds ≠ []) (h2 : ds.length ≤ 1000) (hf : ∀ d ∈ ds, flat1 d = true) (k : ∀ v d, d ∈ ds → ∀ H', Go tp c H H' → Im H' v d → Q v H') :
    tCall sp_pick [] E (tCons (tVar it) (tCons (tLst ta) tNil)) σ H Q := by
  refine callA (consA (var_run ht (consA (lstA ?_))))
  refine h H (Ex.refl H) _ fun vs H2 e2 iv off => ⟨sz_of (by rw [iv.length]; omega), fun p hp => ?_⟩
  have T2 := T.ex e2
  have TP := T2.ex (Ex.new (o := .lst vs) hp)
  refine ⟨tp, c, p, vs, rfl, TP, T2.notin hp, upd_same, fun z => ?_, by rw [iv.length]; omega, fun i x hx H' g => ?_⟩
  · subst z
    cases iv
    exact h1 rfl
  · have iv' := iv.mono (Ex.new (o := .lst vs) hp)
    obtain ⟨d, hd, im⟩ := iv'.get hx
    have hm := List.mem_of_getElem? hd
    have ho := off x (List.mem_of_getElem? hx)
    have gg := (Go.of T (e2.trans (Ex.new (o := .lst vs) hp))).trans g
    refine k x d hm H' gg ?_
    have f := hf d hm
    cases im with
    | non => exact .non
    | bl b => exact .bl _
    | int i => exact .int _
    | str s => exact .str _
    | lst a b =>
      exact .lst (g.at (fun z => by
        rcases List.mem_cons.mp z with rfl | z
        · exact ho.1 rfl
        · rcases List.mem_cons.mp z with rfl | z
          · exact ho.2 rfl
          · cases z) a) (b.tx g.1.2 f)
    | tup a b => exact (Im.tup a b).tx g.1.2 f
end
end Pd
set_option Elab.async false
set_option linter.all false
set_option maxRecDepth 100000
set_option maxHeartbeats 2000000
/-! Mt: match of a tuple, its first item a text that tells the case. -/
namespace Pd
open PySem PySem.Spec PyProof.Rows L2 Evl
/-- the slots that the names take; none: no name -/
def setAll : L2.St → List (Option Nat) → List V → L2.St
  | σ, some i :: is, v :: vs => setAll (σ.set i (some v)) is vs
  | σ, none :: is, _ :: vs => setAll σ is vs
  | σ, _, _ => σ
abbrev TMc := List V → TS
def mEnd : TMc := fun _ D σ H => D.nx σ H
def mSeq (w : Str) (is : List (Option Nat)) (tb : TS) (tr : TMc) : TMc := fun xs D σ H => if xs.length = is.length + 1 then ∃ x vs, xs = .str x :: vs ∧ (if x = w then tb D (setAll σ is vs) H else tr xs D σ H) else tr xs D σ H
def tMatch (K : PySem.W.Frag) (te : TE) (tm : TMc) : TS := fun D σ H => te σ H fun x H1 => ∃ a xs, x = .ref a ∧ SqT K H1 a xs ∧ tm xs D σ H1
structure PMc (X : Cx) (cases : List MatchCase) (t : TMc) : Prop where
  run : ∀ (pins : List (Addr × Obj)) (s : Shared) (σ : L2.St) (H : Hp) (D : Ends) (a : Addr) (xs : List V) (first : Bool), Inv X pins σ H s → SqT X.K H a xs → t xs D σ H → wpAny (model X.prog X.w) X.A (matchCases cases X.env (.ref a) first) (SP X pins D) X.xe s
inductive CapOk (X : Cx) : List Pattern → List (Option Nat) → Prop
  | nil : CapOk X [] []
  | name {n : Str} {i : Nat} {pos : Pos} {ps : List Pattern} {is : List (Option Nat)} : X.N[i]? = some n → Loc X.env.scope n → (X.fn n = true ∨ X.env.scope.names.lookup n = some .local) → CapOk X ps is → CapOk X (.MatchAs none (some n) pos :: ps) (some i :: is)
  | any {pos : Pos} {ps : List Pattern} {is : List (Option Nat)} : CapOk X ps is → CapOk X (.MatchAs none none pos :: ps) (none :: is)
def caps : List Pattern → List Value → List (Str × Value)
  | .MatchAs none name _ :: ps, u :: us => (name.map (·, u)).toList ++ caps ps us
  | _, _ => []
section
variable {X : Cx}
theorem CapOk.len {ps : List Pattern} {is : List (Option Nat)} (h : CapOk X ps is) : ps.length = is.length := by
  induction h with
  | nil => rfl
  | name _ _ _ _ ih => simp [ih]
  | any _ ih => simp [ih]
theorem match_caps {M : Model} {A : Around} {E : Value → Shared → Prop} {ps : List Pattern} {is : List (Option Nat)} (h : CapOk X ps is) : ∀ {us : List Value} {s : Shared} {Q : Option (List (Str × Value)) → Shared → Prop}, us.length = ps.length → Q (some (caps ps us)) s → wpAny M A (matchEach ps X.env us) Q E s := by
  induction h with
  | nil => intro us s Q hl q; exact wpAny_matchEach_nil q
  | @name n i pos ps is h1 h2 h3 h4 ih =>
    intro us s Q hl q
    cases us with
    | nil => simp at hl
    | cons u us =>
      refine wpAny_matchEach_cons (wpAny_matchPattern_Capture ?_)
      refine ih (by simpa using hl) ?_
      exact q
  | @any pos ps is h4 ih =>
    intro us s Q hl q
    cases us with
    | nil => simp at hl
    | cons u us =>
      refine wpAny_matchEach_cons (wpAny_matchPattern_Capture ?_)
      refine ih (by simpa using hl) ?_
      exact q
theorem bind_caps (hN : X.N.Nodup) {E : Value → Shared → Prop} {ps : List Pattern} {is : List (Option Nat)} (h : CapOk X ps is) : ∀ {us : List Value} {vs : List V} {pins : List (Addr × Obj)} {σ : L2.St} {H : Hp} {s : Shared} {Q : Unit → Shared → Prop}, Vals vs us → us.length = ps.length → Inv X pins σ H s →
    (∀ s', Inv X pins (setAll σ is vs) H s' → Q () s') → wpAny (model X.prog X.w) X.A (assignInOrder ((caps ps us).map fun (n, _) => bindName X.env n) ((caps ps us).map (·.2))) Q E s := by
  induction h with
  | nil =>
    intro us vs pins σ H s Q r hl I q
    cases us with
    | nil => cases r; exact assignInOrder_nil (q s I)
    | cons u us => simp at hl
  | @name n i pos ps is h1 h2 h3 h4 ih =>
    intro us vs pins σ H s Q r hl I q
    cases us with
    | nil => simp at hl
    | cons u us =>
      cases r with
      | cons rv rvs =>
        refine assignInOrder_cons (wpAny_bindName (store_ok I hN h1 h2 rv (fun s' I' => ?_) h3))
        exact ih rvs (by simpa using hl) I' q
  | @any pos ps is h4 ih =>
    intro us vs pins σ H s Q r hl I q
    cases us with
    | nil => simp at hl
    | cons u us =>
      cases r with
      | cons rv rvs => exact ih rvs (by simpa using hl) I q
theorem pmc_nil : PMc X [] mEnd := ⟨fun pins s σ H D a xs first I hq h => wpAny_matchCases_nil ⟨σ, H, I, h⟩⟩
theorem pmc_seq {w : Str} {j : Nat} {ps : List Pattern} {is : List (Option Nat)} {body : List Stmt} {rest : List MatchCase} {tb : TS} {tr : TMc} {p1 p2 p3 : Pos} (hc : X.calm = true) (hN : X.N.Nodup) (hps : CapOk X ps is) (hb : PSs X body tb) (hr : PMc X rest tr)
    (hstar : (Pattern.MatchValue (.Constant (.str w) j p1) p2 :: ps).findIdx? (·.isStar) = none := by rfl) (hwild : ((Pattern.MatchValue (.Constant (.str w) j p1) p2 :: ps).all fun p => p.isWildcard || (p.isStar && p.names.isEmpty)) = false := by rfl) :
    PMc X (⟨.MatchSequence (.MatchValue (.Constant (.str w) j p1) p2 :: ps) p3, none, body⟩ :: rest) (mSeq w is tb tr) := by
  refine ⟨fun pins s σ H D a xs first I hq h => ?_⟩
  obtain ⟨its, rv, ht, hz⟩ := I.tuple hq
  have hl : xs.length = its.length := rv.length
  refine wpAny_matchCases_cons (wpAny_matchPattern_Sequence (wpAny_collectionFlag ht.typeIs flag_seq_tuple ?_) hstar hwild)
  show wpAny _ _ (pyLen (.ref a)) _ _ s
  have hfit : (its.toArray.size : Int) < 2 ^ 63 := by
    have : its.toArray.size ≤ sizeLine := by simpa [← hl] using hz
    rw [sizeLine_eq] at this
    omega
  refine pyLen_tuple ht hfit ?_
  have I1 : Inv X pins σ H { s with toks := s.toks + 1 + 1 } := I.tok _
  have hlen : (Pattern.MatchValue (.Constant (.str w) j p1) p2 :: ps).length = is.length + 1 := by rw [List.length_cons, hps.len]
  unfold mSeq at h
  by_cases hn : xs.length = is.length + 1
  · rw [if_pos hn] at h
    obtain ⟨x, vs, rfl, h⟩ := h
    cases rv with
    | @cons _ u0 _ us r0 rvs =>
      have he : ¬ ((((u0 :: us).toArray.size : Nat) : Int) != ((Pattern.MatchValue (.Constant (.str w) j p1) p2 :: ps).length : Int)) = true := by
        rw [hlen, ← hn, hl]
        simp
      rw [if_neg he]
      have hps2 : us.length = ps.length := by
        have := hps.len
        simp only [List.length_cons] at hn hl
        omega
      have hsz : (Pattern.MatchValue (.Constant (.str w) j p1) p2 :: ps).length = (u0 :: us).toArray.size := by simp [hps2]
      rw [hsz]
      refine unpackItems_tuple (I.ok.hd hc) ht fun h' hx => ?_
      have I2 : Inv X pins σ H { s with heap := h', toks := s.toks + 1 + 1 } := I1.kept (t' := s.toks + 1 + 1) fun b o e => hx b o (Nat.ne_of_lt (Heap.lt_size e)) e
      show wpAny _ _ (matchEach (_ :: ps) X.env (u0 :: us)) _ _ _
      refine wpAny_matchEach_cons (wpAny_matchPattern_Value (thn ((pe_str (X := X) (x := w) (j := j) (pos := p1)).run pins _ σ H (fun v H' => v = .str w ∧ H' = H) I2 ⟨rfl, rfl⟩) fun u s2 ⟨v, H1, I3, ru, e1, e2⟩ => ?_))
      subst e1 e2
      refine thn (op_eq pins s2 σ H1 (.str x) (.str w) u0 u (fun z H' => z = .bl (decide (x = w)) ∧ H' = H1) I3 r0 ru ⟨rfl, ?_, rfl⟩) fun cv s3 ⟨z, H2, I4, rz, e3, e4⟩ => ?_
      · by_cases c : x = w <;> simp [c]
      subst e3 e4
      cases rz
      refine wpAny_truthy_bool ?_
      by_cases c : x = w
      · rw [if_pos c] at h
        rw [decide_eq_true c]
        show wpAny _ _ (matchEach ps X.env us) _ _ s3
        refine match_caps hps hps2 ?_
        show wpAny _ _ (assignInOrder (([] ++ caps ps us : List (Str × Value)).map fun (n, _) => bindName X.env n) (([] ++ caps ps us : List (Str × Value)).map (·.2))) _ _ s3
        rw [List.nil_append]
        refine bind_caps hN hps rvs hps2 I4 fun s' I' => ?_
        exact hb.run pins s' _ H2 D I' h
      · rw [if_neg c] at h
        rw [decide_eq_false c]
        exact hr.run pins s3 σ H2 D a _ false I4 hq h
  · rw [if_neg hn] at h
    have he : ((((its.toArray.size : Nat) : Int)) != ((Pattern.MatchValue (.Constant (.str w) j p1) p2 :: ps).length : Int)) = true := by
      rw [hlen]
      simp only [List.size_toArray, bne_iff_ne, ne_eq]
      omega
    rw [if_pos he]
    exact hr.run pins _ σ H D a xs false I1 hq h
theorem ps_match {e : Expr} {te : TE} {cases : List MatchCase} {tm : TMc} {pos : Pos} (he : PE X e te) (hm : PMc X cases tm) : PS X (.Match e cases pos) (tMatch X.K te tm) := by
  refine ⟨fun pins s σ H D I h => ?_⟩
  refine wpAny_Match (thn (he.run pins s σ H _ I h) fun u s1 ⟨x, H1, I1, rx, a, xs, ex, hq, h1⟩ => ?_)
  subst ex
  cases rx
  exact hm.run pins s1 σ H1 D a xs true I1 hq h1
end
end Pd
set_option Elab.async false
set_option linter.all false
set_option maxRecDepth 100000
set_option maxHeartbeats 2000000
/-! En: enumerate(a tuple). -/
namespace Pd
open PySem PySem.Spec PyProof.Rows L2 Evl
open AutoSeq1 (wpAny_loadPart')
theorem enum_newT (l : Addr) (items : Array Value) (n : Nat) (dct : Option Addr) (sl : Array (Option Value)) :
    Meets (Builtin.«enumerate.__new__» ⟨[.type "enumerate", .ref l], []⟩) (fun _ R s => s.heap.get? l = some { cls := .type "tuple", dict := dct, data := .seq items n, slots := sl } ∧
      R (.ok (.ret (.ref (s.heap.push { cls := .type "tuple_iterator", data := .fields #[.ref l, .int 0 0] }).objs.size)))
        { s with heap := (s.heap.push { cls := .type "tuple_iterator", data := .fields #[.ref l, .int 0 0] }).push { cls := .type "enumerate", data := .fields #[.none, .bool false, .ref s.heap.objs.size, rawInt 0, .none, .none] } }) :=
  .of_wp fun prog w A R s h => by
    obtain ⟨hp, g, d, tk, os⟩ := s; obtain ⟨hl, h⟩ := h
    have hsub := sub_enumerate
    have hL : IsTup (Shared.heap ⟨hp, g, d, tk, os⟩) l items := ⟨_, hl, rfl, n, rfl⟩
    wp_walk using wpAny_loadPart' hl
    refine wpAny_stack_any fun st => wpAny_pure ?_
    split
    · rename_i c _ _ _ _ _
      cases (c == Value.type "enumerate")
      · wp_walk using wpAny_loadPart' hl, iter_tuple hL
        exact ⟨_, rfl, h⟩
      · wp_walk using wpAny_loadPart' hl, iter_tuple hL
        exact ⟨_, rfl, h⟩
    · wp_walk using wpAny_loadPart' hl, iter_tuple hL
      exact ⟨_, rfl, h⟩
section
variable {prog : Program} {w : World} {A : Around} {E : Value → Shared → Prop} {s : Shared}
theorem call_enumT {l : Addr} {items : Array Value} {Q : Value → Shared → Prop} (hL : IsTup s.heap l items)
    (h : ∀ h', IsEnum h' (s.heap.objs.size + 1) s.heap.objs.size 0 .none → h'.IsTupleIter s.heap.objs.size l 0 → h'.objs.size = s.heap.objs.size + 2 →
      (∀ b o, s.heap.get? b = some o → h'.get? b = some o) → Q (.ref (s.heap.objs.size + 1)) { s with heap := h' }) :
    wpAny (model prog w) A (call (.type "enumerate") [.ref l]) Q E s := by
  obtain ⟨⟨c, dct, dt, sl⟩, hl, hc, n, hd⟩ := hL
  replace hc : c = .type "tuple" := hc
  replace hd : dt = .seq items n := hd
  subst hc hd
  refine callType_new F.called_enumerate (by decide) (F.typeCall_enumerate_1 _) (F.newCall_enumerate_1 _) (fun obj => F.args_object_init_2 obj _) F.entry_enumerate_new
    (enum_newT l items n dct sl) ⟨hl, ?_⟩
  have hz : (s.heap.push { cls := .type "tuple_iterator", data := .fields #[.ref l, .int 0 0] }).objs.size = s.heap.objs.size + 1 := Heap.size_push ..
  show _ ∧ _
  rw [hz]
  have he : IsEnum ((s.heap.push { cls := .type "tuple_iterator", data := .fields #[.ref l, .int 0 0] }).push
      { cls := .type "enumerate", data := .fields #[.none, .bool false, .ref s.heap.objs.size, rawInt 0, .none, .none] }) (s.heap.objs.size + 1) s.heap.objs.size 0 .none := by
    have := Heap.get?_push_size (s.heap.push { cls := .type "tuple_iterator", data := .fields #[.ref l, .int 0 0] })
      (o := { cls := .type "enumerate", data := .fields #[.none, .bool false, .ref s.heap.objs.size, rawInt 0, .none, .none] }) rfl
    rw [hz] at this; exact this
  refine ⟨⟨_, he, rfl⟩, h _ he ⟨_, Heap.get?_push_of_some _ (Heap.get?_push_size _ rfl), rfl, rfl⟩ (by rw [Heap.size_push, hz]) fun b o x => Heap.get?_push_of_some _ (Heap.get?_push_of_some _ x)⟩
end
/-- the tuple at a, each item in a new pair -/
def Iet (K : PySem.W.Frag) (a : Addr) : It :=
  ⟨fun i H => ∃ (xs : List V) (x : V), SqT K H a xs ∧ xs[i]? = some x, fun i H v H' => ∃ T x, v = .ref T ∧ H T = none ∧ H' = upd H T (.tup [.int (i : Nat), x]) ∧ ∀ xs, SqT K H a xs → xs[i]? = some x, fun i H => ∃ xs : List V, SqT K H a xs ∧ xs.length ≤ i⟩
theorem IsTup.isTuple {h : Heap} {a : Addr} {items : Array Value} (x : IsTup h a items) : h.IsTuple a items := x
theorem turn_enumT {P : Program} {w : World} {K : PySem.W.Frag} {elts : List Expr} {kk : Nat} {tpos : Pos} (a e it : Addr) :
    Turn P w K (.Tuple elts kk tpos) (Iet K a) [e, it] e (fun i h => (∃ old, IsEnum h e it ((i : Nat) : Int) old) ∧ h.IsTupleIter it a i ∧ e ≠ it) where
  mem := by simp
  obj := fun i h st b hb => by
    obtain ⟨⟨old, he⟩, ⟨o, ho, hc, hd⟩, _⟩ := st
    have e' : b = e ∨ b = it := by simpa using hb
    rcases e' with z | z
    · rw [z]; exact ⟨_, he, fun v q => nomatch q⟩
    · rw [z]; exact ⟨o, ho, fun v q => by rw [hd] at q; cases q⟩
  keep := fun i h h' st k => let ⟨⟨old, he⟩, hi, hne⟩ := st; ⟨⟨old, k e (by simp) _ he⟩, hi.at fun o q => k it (by simp) o q, hne⟩
  item := by
    intro X hP hw hK hc i pins s σ H E I hf st hg
    subst hP hw hK
    obtain ⟨⟨old, he⟩, hit, hne⟩ := st
    obtain ⟨xs, x, hq, hx⟩ := hg
    obtain ⟨its, rv, p, hz⟩ := I.tuple hq
    obtain ⟨u, hu, ru⟩ := rv.get hx
    have hel : e < s.heap.objs.size := Heap.lt_size he
    have hil : it < s.heap.objs.size := by obtain ⟨_, q, _⟩ := hit; exact Heap.lt_size q
    have hai : a ≠ it := fun z => by
      obtain ⟨o1, g1, c1, _⟩ := p
      obtain ⟨o2, g2, c2, _⟩ := hit
      rw [z, g2] at g1
      cases g1
      rw [c2] at c1
      exact absurd (Value.type.inj c1) (by decide)
    have hae : a ≠ e := fun z => by
      obtain ⟨o1, g1, c1, _⟩ := p
      rw [z, he] at g1
      cases g1
      have c1' : Value.type "enumerate" = Value.type "tuple" := c1
      exact absurd (Value.type.inj c1') (by decide)
    have hlt : i < its.toArray.size := by
      have := (List.getElem?_eq_some_iff.mp hu).1
      simpa using this
    refine wpAny_pyNext_enum_itemD (Draws.tuple (show X.A.in1.handled = none from I.ok.hd hc) it a hai its.toArray) he ⟨hit, p⟩ hlt hne (by simp [hne, Ne.symm hae]) fun x' h' tk hx' ho hit' hT hsz hk => ?_
    have exx : x' = u := by
      have : its.toArray[i]? = some u := by simpa using hu
      rw [this] at hx'
      exact (Option.some.inj hx').symm
    subst exx
    refine ⟨_, rfl, wpAny_letOwnedTupleGo_enum (s := { s with heap := h', toks := tk + 1 }) ho fun h'' he' sb => ?_⟩
    have hT2 : h''.get? s.heap.objs.size = some { cls := .type "tuple", data := .seq #[.int i tk, x'] } := (sb.2 _ (Nat.ne_of_gt hel)).trans hT
    have new : ObjOk X.prog X.w (upd H s.heap.objs.size (.tup [.int (i : Nat), x])) h'' s.heap.objs.size (.tup [.int (i : Nat), x]) :=
      ⟨by show 2 ≤ sizeLine; decide, [.int i tk, x'], .cons ⟨_, rfl⟩ (.cons ru .nil), ⟨_, hT2, rfl, _, rfl⟩⟩
    have I1 : Inv X pins σ (upd H s.heap.objs.size (.tup [.int (i : Nat), x])) { s with heap := h'', toks := tk + 1 } :=
      I.turnedNew (ch := [e, it]) (fun b ob hb q => (sb.2 b (fun z => hb (by simp [z]))).trans (hk b ob (fun z => hb (by simp [z])) (fun z => hb (by simp [z])) q)) hf (Nat.le_refl _) new
    refine ⟨.ref s.heap.objs.size, _, I1, rfl, ⟨_, x, rfl, I.hok.fresh (Nat.le_refl _), rfl, fun ys hy => by rw [I.tuple_inj hy hq]; exact hx⟩, ⟨⟨x', ?_⟩, hit'.1.at fun o q => (sb.2 it (Ne.symm hne)).trans q, hne⟩, fun b hb => ?_⟩
    · have e1 : ((i + 1 : Nat) : Int) = (i : Int) + 1 := by omega
      rw [e1]; exact he'
    · have hb' : b < s.heap.objs.size := by
        have e' : b = e ∨ b = it := by simpa using hb
        rcases e' with z | z
        · rw [z]; exact hel
        · rw [z]; exact hil
      rw [upd_ne (Nat.ne_of_lt hb')]
      exact (hf b hb).1
  done := by
    intro X hP hw hK hc i pins s σ H E I hf st hg
    subst hP hw hK
    obtain ⟨⟨old, he⟩, hit, hne⟩ := st
    obtain ⟨xs, hq, hx⟩ := hg
    obtain ⟨its, rv, p, hz⟩ := I.tuple hq
    obtain ⟨f0, f1, f2, f3, f4, f5⟩ := hf it (by simp)
    have hl := rv.length
    have hT : s.TypeIs (.ref e) "enumerate" := ⟨_, he, rfl⟩
    unfold pyNext
    refine wpAny_bind (wpAny_attempt (wpAny_callSpecial?_slot (name := Str.ofString "__next__") hT F.slot_enumerate_next
      (wpAny_call_entry F.slot_enumerate_next hT F.entry_enumerate_next ?_ (F.args_enumerate_next_1 _))))
    show wpAny _ _ (field (.ref e) 2 >>= _) _ _ _
    refine wpAny_bind (wpAny_field he rfl (x := .ref it) rfl ?_)
    refine wpAny_bind (wpAny_nextOf_tuple_end (show X.A.in1.handled = none from I.ok.hd hc) hit p (by simp; omega) fun h' x he' hx' => ?_)
    obtain ⟨o, ho, hc'⟩ := hx'
    refine wpAny_bind (wpAny_isInstance (T := "StopIteration") (b := true) ⟨o, ho, hc'⟩ isSubtype_stop ?_)
    exact wpAny_pure ⟨rfl, I.turned (t' := s.toks) (fun b o hb q => he' b o hb q) f0 f1 f3 f4 f5⟩
  self := fun A i s Q E st h => let ⟨⟨_, he⟩, _⟩ := st; wpAny_pyIter_enum he h
def iEnumT (K : PySem.W.Frag) (ta : TA) : TI := fun σ H R => ta σ H fun vs H1 => ∃ a xs, vs = [.ref a] ∧ SqT K H1 a xs ∧ R (Iet K a) H1
theorem pi_enumT {X : Cx} {e : Expr} {ta : TA} {p pos tpos : Pos} {elts : List Expr} {kk : Nat} (hg : Gl X "enumerate") (hm : X.mg "enumerate" = none) (ha : PA X [e] ta) (hs : starEach [e] X.env = [(false, eval e X.env)] := by rfl) :
    PI X (.Tuple elts kk tpos) (.Call (.Name "enumerate" p) [e] [] pos) (iEnumT X.K ta) := by
  refine ⟨fun pins s σ H R I h => ?_⟩
  refine PyProof.Rows.Call_ (ld_blt I hg hm boot_enumerate (PyProof.Rows.callWith_type1 (thn (ha.run pos pins s σ H _ I h) fun us s1 ⟨vs, H1, I1, r1, q1⟩ => ?_) hs rfl))
  obtain ⟨a, xs, ex, hq, q⟩ := q1
  subst ex
  cases r1 with
  | cons r rr =>
    cases rr
    cases r
    obtain ⟨its, rv, p', hz⟩ := I1.tuple hq
    refine call_enumT p' fun h' he hit hsz hk => wpAny_pyIter_enum he ?_
    have I2 : Inv X pins σ H1 { s1 with heap := h' } := I1.kept (t' := s1.toks) hk
    refine ⟨s1.heap.objs.size + 1, [s1.heap.objs.size + 1, s1.heap.objs.size], _, _, H1, rfl, I2, turn_enumT a (s1.heap.objs.size + 1) s1.heap.objs.size, ⟨⟨.none, he⟩, hit, Nat.succ_ne_self _⟩, fun b hb => ?_, q⟩
    have e' : b = s1.heap.objs.size + 1 ∨ b = s1.heap.objs.size := by simpa using hb
    have hle : s1.heap.objs.size ≤ b := by
      rcases e' with z | z
      · rw [z]; exact Nat.le_add_right _ _
      · rw [z]; exact Nat.le_refl _
    exact I1.fpOk hle (I1.hok.fresh hle)
theorem k_pi_enumT {X : Cx} {K : PySem.W.Frag} (hK : X.K = K) {e : Expr} {ta : TA} {p pos tpos : Pos} {elts : List Expr} {kk : Nat} (hg : Gl X "enumerate") (hm : X.mg "enumerate" = none) (ha : PA X [e] ta) (hs : starEach [e] X.env = [(false, eval e X.env)] := by rfl) :
    PI X (.Tuple elts kk tpos) (.Call (.Name "enumerate" p) [e] [] pos) (iEnumT K ta) := by subst hK; exact pi_enumT hg hm ha hs
theorem walk_enumT {K : PySem.W.Frag} {a : Addr} {xs : List V} : Walk (Iet K a) xs.length (fun H => SqT K H a xs) (YPair (fun i => some (.int (i : Nat))) (fun i => xs[i]?)) :=
  ⟨fun i _ hi q => ⟨xs, xs[i], q, by simp [hi]⟩, fun _ q => ⟨xs, q, Nat.le_refl _⟩, fun i H v H' _ q y => by
    obtain ⟨T, x, e1, e2, e3, e4⟩ := y
    exact ⟨T, _, x, e1, e2, e3, rfl, e4 xs q⟩⟩
theorem wm_enumT {K : PySem.W.Frag} {σ : L2.St} {H : Hp} {tl : TE} {ds : List PyData} {M : List Addr} (h : EvD tl σ H (.tuple ds)) (hs : stills ds = true) : WkM M (iEnumT K (tCons tl tNil)) σ H (numbered 0 ds) := fun H1 e R r =>
  h H1 e _ fun v H2 e2 iv => by
    obtain ⟨p, xs, rfl, g1, g2⟩ := iv.t
    refine ⟨p, xs, rfl, SqT.of g1, r _ H2 (fun H => SqT K H p xs) (YPair (fun i => some (.int (i : Nat))) (fun i => xs[i]?)) e2 (by rw [numbered_length, ← g2.length]; exact walk_enumT) (fun H3 e3 => SqT.of (e3.2 _ _ g1)) fun i H3 x H4 e3 yy => ?_⟩
    obtain ⟨T, a, b, rfl, hT, rfl, ha, hb⟩ := yy
    obtain ⟨d2, hd2, im2⟩ := (g2.tx e3.2 hs).get hb
    have ea : a = .int (i : Nat) := (Option.some.inj ha).symm
    subst ea
    refine ⟨Ex.new hT, .tuple [.int (i : Nat), d2], ?_, .tup upd_same (.cons (.int _) (.cons (im2.mono (Ex.new hT)) .nil))⟩
    have := numbered_get ds 0 i d2 hd2
    rw [Nat.zero_add] at this
    exact this
end Pd
set_option Elab.async false
set_option linter.all false
set_option maxRecDepth 100000
set_option maxHeartbeats 2000000
/-! Cm: methods and instances. -/
namespace Pd
open PySem PySem.Spec PyProof.Rows L2 Evl
/-- a method of the class at C, its promise kept -/
structure CalM (P : Program) (w : World) (K : PySem.W.Frag) (mg : Str → Option Value) (base : Heap) (CX : CXT) (k : Nat) (C : Addr) (m : Str) (ps : List Str) (sp : Sp) : Prop where
  ex : ∃ (f : Addr) (fd : FuncData), Meth K C m f ∧ Binds K fd ps [] ∧ FnOk P w K mg base CX k f fd ps sp
structure SrcM (K : PySem.W.Frag) (C : Addr) (m qual : Str) (st : Stmt) (ps : List Str) : Prop where
  ex : ∃ (f : Addr) (fd : FuncData), Meth K C m f ∧ Fun K m qual st f fd ∧ Binds K fd ps []
/-- the making of an instance -/
structure CalC (P : Program) (w : World) (K : PySem.W.Frag) (mg : Str → Option Value) (base : Heap) (CX : CXT) (k : Nat) (x : Str) (C : Addr) (ps : List Str) (sp : Sp) : Prop where
  ex : ∃ (f : Addr) (fd : FuncData), mg x = some (.ref C) ∧ Mk K C f ∧ Binds K fd ps [] ∧ FnOk P w K mg base CX k f fd ps sp
structure SrcC (K : PySem.W.Frag) (mg : Str → Option Value) (x : Str) (C : Addr) (qual : Str) (st : Stmt) (ps : List Str) : Prop where
  ex : ∃ (f : Addr) (fd : FuncData), mg x = some (.ref C) ∧ Mk K C f ∧ Fun K "__init__" qual st f fd ∧ Binds K fd ps []
section
variable {P : Program} {w : World} {K : PySem.W.Frag} {mg : Str → Option Value} {base : Heap}
theorem SrcM.cal {C : Addr} {m qual : Str} {st : Stmt} {N ps : List Str} {k : Nat} {sp : Sp} (F : SrcM K C m qual st ps) (S : FnScope N ps (defScope st)) (len : ∀ vs H Q E, sp vs H Q E → vs.length = ps.length)
    (hbody : ∀ (f : Addr) (cdv : Value) (A : Around) (outer : List Env) (s : Shared) (H : Hp) (vs : List V) (Q : VK) (E : XK), Room k (A.deeper (envOfC qual (defScope st) s.heap.objs.size f cdv)) → sp vs H Q E →
      ∃ t, PSs (cxOf CX0 P w K mg base N qual (defScope st) f cdv A outer s H E).nox (defBody st) t ∧ t { nx := fun _ H' => Q .non H', rt := Q } (start N vs) H) : CalM P w K mg base CX0 (k + 1) C m ps sp := by
  obtain ⟨f, fd, hm, hF, hb⟩ := F.ex
  exact ⟨f, fd, hm, hb, hF.ok S len fun cdv A outer s H vs Q E => hbody f cdv A outer s H vs Q E⟩
theorem SrcC.calX {x : Str} {C : Addr} {qual : Str} {st : Stmt} {N ps : List Str} {k : Nat} {sp : Sp} (F : SrcC K mg x C qual st ps) (S : FnScope N ps (defScope st)) (len : ∀ vs H Q E, sp vs H Q E → vs.length = ps.length)
    (hbody : ∀ (f : Addr) (cdv : Value) (A : Around) (outer : List Env) (s : Shared) (H : Hp) (vs : List V) (Q : VK) (E : XK), Room k (A.deeper (envOfC qual (defScope st) s.heap.objs.size f cdv)) → sp vs H Q E →
      ∃ t, PSs (cxOf (L2.CX P w) P w K mg base N qual (defScope st) f cdv A outer s H E) (defBody st) t ∧ t { nx := fun _ H' => Q .non H', rt := Q } (start N vs) H) : CalC P w K mg base (L2.CX P w) (k + 1) x C ps sp := by
  obtain ⟨f, fd, hx, hm, hF, hb⟩ := F.ex
  exact ⟨f, fd, hx, hm, hb, hF.okX S len fun cdv A outer s H vs Q E => hbody f cdv A outer s H vs Q E⟩
theorem SrcC.cal {x : Str} {C : Addr} {qual : Str} {st : Stmt} {N ps : List Str} {k : Nat} {sp : Sp} (F : SrcC K mg x C qual st ps) (S : FnScope N ps (defScope st)) (len : ∀ vs H Q E, sp vs H Q E → vs.length = ps.length)
    (hbody : ∀ (f : Addr) (cdv : Value) (A : Around) (outer : List Env) (s : Shared) (H : Hp) (vs : List V) (Q : VK) (E : XK), Room k (A.deeper (envOfC qual (defScope st) s.heap.objs.size f cdv)) → sp vs H Q E →
      ∃ t, PSs (cxOf CX0 P w K mg base N qual (defScope st) f cdv A outer s H E).nox (defBody st) t ∧ t { nx := fun _ H' => Q .non H', rt := Q } (start N vs) H) : CalC P w K mg base CX0 (k + 1) x C ps sp := by
  obtain ⟨f, fd, hx, hm, hF, hb⟩ := F.ex
  exact ⟨f, fd, hx, hm, hb, hF.ok S len fun cdv A outer s H vs Q E => hbody f cdv A outer s H vs Q E⟩
end
section
variable {X : Cx} {CX : CXT} {k : Nat} {ps : List Str} {sp : Sp} {E : XK} {x m : Str} {p pos apos : Pos} {e o : Expr} {es : List Expr} {t : TA} {ta : TE} {C : Addr}
theorem pe_calM {pl : Sem Bool} (M : CalM X.prog X.w X.K X.mg X.base CX k C m ps sp) (c : Cls X.K C) (hr : Room k X.A) (hx : Passes CX X E) (he : PE X o ta) (ha : PA X (e :: es) t)
    (hst : starEach (e :: es) X.env = (false, eval e X.env) :: starEach es X.env := by rfl) (hpl : (backTo pos (starEach es X.env)).any (·.1) = false := by rfl)
    (ht : eval (.Call (.Attribute o m apos) (e :: es) [] pos) X.env = (do
      let ov ← eval o X.env
      standAt apos.atName
      let (f, first) ← holding [ov] (getMethod ov m pl)
      callWith pos f first (backTo pos (starEach (e :: es) X.env)) (backToKw pos (keywordEach [] X.env))) := by rfl) :
    PE X (.Call (.Attribute o m apos) (e :: es) [] pos) (tMeth C m sp [] E ta t) := by
  obtain ⟨f, fd, hm, hb, F⟩ := M.ex
  exact pe_meth he c hm F hr hb .nil hx ha hst hpl ht
theorem pe_mkC (M : CalC X.prog X.w X.K X.mg X.base CX k x C ps sp) (hr : Room (k + 1) X.A) (hg : Gl X x) (hx : Passes CX X E)
    (ha : PA X (e :: es) t) (hdb : (x == ("__debug__" : Str)) = false := by decide) (he : starEach (e :: es) X.env = (false, eval e X.env) :: starEach es X.env := by rfl) (hpl : (backTo pos (starEach es X.env)).any (·.1) = false := by rfl) :
    PE X (.Call (.Name x p) (e :: es) [] pos) (tMake C sp [] E t) := by
  obtain ⟨f, fd, hm, hM, hb, F⟩ := M.ex
  exact pe_make hM F hr hg hm hb .nil hx ha hdb he hpl
theorem k_fld {K : PySem.W.Frag} (hK : X.K = K) {f : Str} (he : PE X e ta) (hb : attributeBase e f X.env (eval e X.env) = eval e X.env) : PE X (.Attribute e f pos) (tFld K ta f) := by subst hK; exact pe_fld he hb
end
section
variable {K : PySem.W.Frag} {σ : L2.St} {H H' : Hp} {ta tb te tx tl to : TE} {x y z v : V} {d d' : PyData} {ds : List PyData} {C a dx : Addr} {fs : List (Str × V)} {f m : Str}
theorem ed_fld (h : Ev ta σ H (.ref a)) (hi : H a = some (.ins C dx fs)) (hc : Cls K C) (hn : NoAttr K C f) (hl : fs.lookup f = some v) (hv : Im H v d) : EvD (tFld K ta f) σ H d := fun H1 e Q q =>
  h H1 e _ fun H2 e2 => ⟨a, C, dx, fs, v, rfl, (e.trans e2) _ _ hi, hc, hn, hl, q v H2 e2 (hv.mono (e.trans e2))⟩
/-- a method of an instance, its answer a datum -/
def SpS {α : Type} (S : α → Addr → Hp → Prop) (R : α → List PyData → PyData → Prop) : Sp := fun vs H Q _ => ∃ (x : α) (a : Addr) (ws : List V) (ds : List PyData) (d : PyData), vs = .ref a :: ws ∧ S x a H ∧ Ims H ws ds ∧ R x ds d ∧ ∀ v H', Ex H H' → Im H' v d → Q v H'
theorem ed_meth {α : Type} {S : α → Addr → Hp → Prop} {R : α → List PyData → PyData → Prop} {E : XK} {ta : TE} {tar : TA} {x : α} (ho : Ev ta σ H (.ref a)) (hi : H a = some (.ins C dx fs)) (hl : fs.lookup m = none) (hS : S x a H) (hm : ∀ H1, Ex H H1 → S x a H → S x a H1) (hd : EvDs tar σ H ds) (hR : R x ds d) :
    EvD (tMeth C m (SpS S R) [] E ta tar) σ H d := fun H1 e Q q => ho H1 e _ fun H2 e2 => ⟨a, dx, fs, rfl, (e.trans e2) _ _ hi, hl, hd H2 (e.trans e2) _ fun vs H3 e3 iv => ⟨x, a, vs, ds, d, by rw [List.append_nil], hm H3 ((e.trans e2).trans e3) hS, iv, hR, fun v H4 e4 i4 => q v H4 ((e2.trans e3).trans e4) i4⟩⟩
/-- x in xs, flat values -/
theorem ed_inV {neg : Bool} {ds : List PyData} {xs : List V} (ha : EvD ta σ H d) (hv : ∀ H1 v, Im H1 v d → v = x) (hf : flatV x = true) (hb : EvD tb σ H (.tuple ds)) (hx : ∀ H1 vs, Ims H1 vs ds → vs = xs) (hfs : xs.all flatV = true) : EvD (tOp (rIn K neg) ta tb) σ H (.bool (if neg then !inV x xs else inV x xs)) :=
  ed_op ha hb fun v y H1 e hv1 hy Q q => by
    obtain ⟨p, ys, rfl, h1, h2⟩ := hy.t
    have e1 := hv H1 v hv1
    have e2 := hx H1 ys h2
    subst e1 e2
    exact ⟨p, ys, rfl, .inr (SqT.of h1), hf, hfs, q _ H1 (Ex.refl H1) (.bl _)⟩
/-- == of scalars -/
theorem ed_eqV (ha : EvD ta σ H d) (hb : EvD tb σ H d') (hx : ∀ H1 v, Im H1 v d → v = x) (hy : ∀ H1 v, Im H1 v d' → v = y) (hs : scal x y = true) : EvD (tOp rEq ta tb) σ H (.bool (decide (x = y))) :=
  ed_op ha hb fun v u H1 e hv hu Q q => by
    have e1 := hx H1 v hv
    have e2 := hy H1 u hu
    subst e1 e2
    exact ⟨hs, q _ H1 (Ex.refl H1) (.bl _)⟩
/-- a comprehension whose items are drawn: all new ones are still and hold PD -/
theorem lc_drawn {wi : TI} {j : Nat} {vs : List Nat} {tp c : Addr} {C : List PyData → Hp → Prop} {Q : VK} {PD : PyData → Prop} (T : Tape tp c H) (hk : Run wi σ H [tp, c] C) (hC : ∀ src H2, C src H2 → src.length ≤ 1000 ∧ Go tp c H H2) (hst : ∀ d, PD d → still d = true)
    (hb : ∀ (src : List PyData) (i : Nat) (d : PyData) (x : V) (H2 H1 : Hp), C src H2 → src[i]? = some d → Go tp c H H1 → Im H1 x d → ∀ Q : VK, (∀ v d' H3, Go tp c H1 H3 → PD d' → Im H3 v d' → Q v H3) → te ((wipe σ vs).set j (some x)) H1 Q) (hw : ∀ x, wipe ((wipe σ vs).set j (some x)) vs = wipe σ vs)
    (k : ∀ p xs ds src H2 H', C src H2 → Go tp c H H' → H p = none → (∀ d ∈ ds, PD d) → ds.length = src.length → H' p = some (.lst xs) → Ims H' xs ds → Q (.ref p) H') : tLc wi (gName j) tYes te vs σ H Q := by
  refine hk _ fun J H2 G Y src hc W hG hY Dl hD => ?_
  obtain ⟨hsz, g2⟩ := hC src H2 hc
  have T2 := g2.2
  refine lc_it W (fun i H' => Go tp c H2 H' ∧ ∃ acc ds, acc.length = i ∧ H' Dl = some (.lst acc) ∧ Ims H' acc ds ∧ ds.length = i ∧ ∀ d ∈ ds, PD d)
    ⟨(Go.refl T2).mut T2 hD, [], [], rfl, upd_same, .nil, rfl, fun d hd => by cases hd⟩ (fun i H' _ p => hG H' p.1.1) (fun i x H3 H4 hi p y => ?_) fun H' p => ?_
  · obtain ⟨g, acc, ds, q1, q2, q3, q4, q5⟩ := p
    obtain ⟨e34, d, hd, im⟩ := hY i H3 x H4 g.1 y
    have g4 : Go tp c H2 H4 := g.ex e34
    refine ⟨hw x, ?_⟩
    show te ((wipe σ vs).set j (some x)) H4 _
    refine hb src i d x H2 H4 hc hd (g2.trans g4) im _ fun v d' H5 g5 hp iv => ?_
    have D5 : H5 Dl = some (.lst acc) := g5.at (T2.notin hD) (e34 _ _ q2)
    have hstd : stills ds = true := by
      clear q3 q4
      induction ds with
      | nil => rfl
      | cons a l ih =>
        show (still a && stills l) = true
        rw [hst a (q5 a (List.mem_cons_self ..)), ih fun d hd => q5 d (List.mem_cons_of_mem _ hd)]
        rfl
    refine ⟨acc, D5, sz_lt (by omega), (g4.trans g5).mut T2 hD, acc ++ [v], ds ++ [d'], by rw [List.length_append, q1]; rfl, upd_same, ?_, by rw [List.length_append, q4]; rfl, fun d hd => ?_⟩
    · exact Ims.append (((q3.mono e34).tx g5.1.2 hstd).tx (tx_lst D5) hstd) (.cons (iv.tx (tx_lst D5) (hst d' hp)) .nil)
    · rcases List.mem_append.mp hd with hd | hd
      · exact q5 d hd
      · have : d = d' := by simpa using hd
        rw [this]; exact hp
  · obtain ⟨g, acc, ds, q1, q2, q3, q4, q5⟩ := p
    refine k Dl acc ds src H2 H' hc (g2.trans g) ?_ q5 q4 q2 q3
    cases c0 : H Dl with
    | none => rfl
    | some o =>
      exfalso
      by_cases hm : Dl ∈ [tp, c]
      · exact T2.notin hD hm
      · rw [g2.at hm c0] at hD
        cases hD
end
end Pd
set_option Elab.async false
set_option linter.all false
set_option maxRecDepth 100000
set_option maxHeartbeats 4000000
/-! tuple * int for every number from 0 to 1000 -/
namespace L2
open PySem PySem.Spec PyProof.Rows
theorem tuple_mul0 (l : Addr) (items : Array Value) (n : Nat) (dd : Option Addr) (sl : Array (Option Value)) (u : Tok) (c1 : (items.isEmpty || (0 : Int) == 1) = false) :
    Meets (Builtin.«tuple.__mul__» ⟨[.ref l, .int 0 u], []⟩) (fun _ R s => s.heap.get? l = some { cls := .type "tuple", dict := dd, data := .seq items n, slots := sl } ∧
      R (.ok (.ret (Value.ref s.heap.objs.size))) { s with heap := s.heap.push { cls := Value.type "tuple", data := Data.seq #[] }, toks := s.toks }) :=
  .of_wp fun prog w A R s h => by
    obtain ⟨hp, g, d, tk, os⟩ := s
    obtain ⟨hl, h⟩ := h
    have f1 := AutoSeq1.idx_int
    wp_walk using wpAny_loadPart' hl
    repeat (first
      | (refine wpAny_ite_false (by decide) ?_; wp_walk using wpAny_loadPart' hl)
      | (refine wpAny_ite_false (decide_eq_false (by rw [c1]; exact Bool.false_ne_true)) ?_; wp_walk using wpAny_loadPart' hl)
      | (refine wpAny_ite_true (by simp) ?_; wp_walk using wpAny_loadPart' hl))
    all_goals exact ⟨_, rfl, h⟩
theorem tuple_mul1 (l : Addr) (items : Array Value) (n : Nat) (dd : Option Addr) (sl : Array (Option Value)) (u : Tok) :
    Meets (Builtin.«tuple.__mul__» ⟨[.ref l, .int 1 u], []⟩) (fun _ R s => s.heap.get? l = some { cls := .type "tuple", dict := dd, data := .seq items n, slots := sl } ∧
      R (.ok (.ret (Value.ref l))) s) :=
  .of_wp fun prog w A R s h => by
    obtain ⟨hp, g, d, tk, os⟩ := s
    obtain ⟨hl, h⟩ := h
    have f1 := AutoSeq1.idx_int
    wp_walk using wpAny_loadPart' hl
    repeat (first
      | (refine wpAny_ite_false (by decide) ?_; wp_walk using wpAny_loadPart' hl)
      | (refine wpAny_ite_true (by simp) ?_; wp_walk using wpAny_loadPart' hl))
    all_goals exact ⟨_, rfl, h⟩
def rRepA (K : PySem.W.Frag) : R2 := fun x y H Q => ∃ l k xs, x = .ref l ∧ y = .int k ∧ SqT K H l xs ∧ xs ≠ [] ∧ 0 ≤ k ∧ k ≤ 1000 ∧ xs.length ≤ 1000 ∧ (k = 1 → Q (.ref l) H) ∧ ∀ p, H p = none → Q (.ref p) (upd H p (.tup (List.replicate k.toNat xs).flatten))
section
variable {X : Cx}
theorem op_repA : OpR X (binaryOp .Mult) (rRepA X.K) := by
  intro pins s σ H x y v u Q I rx ry h
  obtain ⟨l, k, xs, rfl, rfl, hT, hne, h0, h2, hz, q1, q⟩ := h
  by_cases h1 : 2 ≤ k
  · exact op_repT pins s σ H (.ref l) (.int k) v u Q I rx ry ⟨l, k, xs, rfl, rfl, hT, hne, h1, h2, hz, q⟩
  cases rx
  obtain ⟨t, rfl⟩ := ry
  obtain ⟨its, r, ⟨⟨cls, dd, data, sl⟩, ho, hc, n, hd⟩, hs⟩ := I.tuple hT
  simp only at hc hd
  subst hc hd
  have hle : its.length = xs.length := r.length.symm
  have hn : its ≠ [] := fun e => hne (by
    rw [e] at hle
    exact List.eq_nil_of_length_eq_zero hle.symm)
  have hi : its.toArray.isEmpty = false := by
    cases its with
    | nil => exact absurd rfl hn
    | cons a b => rfl
  rcases (by omega : k = 0 ∨ k = 1) with rfl | rfl
  · have c1 : (its.toArray.isEmpty || (0 : Int) == 1) = false := by rw [hi]; rfl
    refine wpAny_binaryOp_repeat_ref (T := "tuple") (U := "int") (by decide) ⟨_, ho, rfl⟩ (fun s' => typeIs_int s' 0 t) noFill_tuple_mul F.fills_int_mul F.slot_int_rmul repeat_tuple F.slot_int_index.lookup
      (call_meets F.slot_int_rmul (typeIs_int s 0 t) F.entry_int_rmul (F.args_int_rmul_2 _ _) (int_rmul_tuple 0 t l its.toArray n dd sl)
        ⟨ho, rfl, ⟨_, ho, rfl⟩, call_meets F.slot_tuple_mul ⟨_, ho, rfl⟩ F.entry_tuple_mul (F.args_tuple_mul_2 _ _) (tuple_mul0 l its.toArray n dd sl t c1) ⟨ho, ?_⟩⟩)
    refine ⟨.ref s.heap.objs.size, _, I.laid (t' := s.toks) (o := .tup []) (fun b ob q => Heap.get?_push_of_some _ q) (Nat.le_refl _) ?_, rfl, q _ (I.hok.fresh (Nat.le_refl _))⟩
    exact ⟨Nat.zero_le _, _, .nil, IsTup.new _ _⟩
  · refine wpAny_binaryOp_repeat_ref (T := "tuple") (U := "int") (by decide) ⟨_, ho, rfl⟩ (fun s' => typeIs_int s' 1 t) noFill_tuple_mul F.fills_int_mul F.slot_int_rmul repeat_tuple F.slot_int_index.lookup
      (call_meets F.slot_int_rmul (typeIs_int s 1 t) F.entry_int_rmul (F.args_int_rmul_2 _ _) (int_rmul_tuple 1 t l its.toArray n dd sl)
        ⟨ho, rfl, ⟨_, ho, rfl⟩, call_meets F.slot_tuple_mul ⟨_, ho, rfl⟩ F.entry_tuple_mul (F.args_tuple_mul_2 _ _) (tuple_mul1 l its.toArray n dd sl t) ⟨ho, ?_⟩⟩)
    exact ⟨.ref l, _, I, rfl, q1 rfl⟩
end
end L2
namespace Pd
open PySem PySem.Spec PyProof.Rows L2 Evl
theorem Ims.rep1 {H : Hp} {v : V} {d : PyData} (h : Im H v d) : ∀ n : Nat, Ims H (List.replicate n [v]).flatten (List.replicate n d)
  | 0 => .nil
  | n + 1 => by
    rw [List.replicate_succ, List.replicate_succ, List.flatten_cons]
    exact .cons h (Ims.rep1 h n)
theorem k_repA {X : Cx} {K : PySem.W.Frag} (hK : X.K = K) : OpR X (binaryOp .Mult) (rRepA K) := by subst hK; exact op_repA
theorem ed_repT {K : PySem.W.Frag} {σ : L2.St} {H : Hp} {ta tb : TE} {n : Nat} {d : PyData} (ha : EvD ta σ H (.tuple [d])) (hb : EvD tb σ H (.int (n : Nat))) (hn : n ≤ 1000) : EvD (tOp (rRepA K) ta tb) σ H (.tuple (List.replicate n d)) :=
  ed_op ha hb fun x y H1 e hx hy Q q => by
    obtain ⟨p, xs, rfl, h1, h2⟩ := hx.t
    cases hy.i
    obtain ⟨v, rfl, iv⟩ := h2.one
    refine ⟨p, (n : Nat), [v], rfl, rfl, SqT.of h1, List.cons_ne_nil _ _, by omega, by omega, by show 1 ≤ 1000; omega, fun z => ?_, fun r hr => ?_⟩
    · cases (by omega : n = 1)
      exact q _ H1 (Ex.refl H1) (.tup h1 h2)
    · refine q _ _ (Ex.new hr) (.tup upd_same ?_)
      rw [Int.toNat_natCast]
      exact Ims.rep1 (iv.mono (Ex.new hr)) n
end Pd
set_option Elab.async false
set_option linter.all false
set_option maxRecDepth 100000
set_option maxHeartbeats 4000000
/-! tuple * int, from 2 on, up to 100000 items -/
namespace L2
open PySem PySem.Spec PyProof.Rows
def rRepW (K : PySem.W.Frag) : R2 := fun x y H Q => ∃ l k xs, x = .ref l ∧ y = .int k ∧ SqT K H l xs ∧ xs ≠ [] ∧ 2 ≤ k ∧ k.toNat * xs.length ≤ 100000 ∧ ∀ p, H p = none → Q (.ref p) (upd H p (.tup (List.replicate k.toNat xs).flatten))
section
variable {X : Cx}
theorem op_repW : OpR X (binaryOp .Mult) (rRepW X.K) := by
  intro pins s σ H x y v u Q I rx ry h
  obtain ⟨l, k, xs, rfl, rfl, hT, hne, h1, hz, q⟩ := h
  cases rx
  obtain ⟨t, rfl⟩ := ry
  obtain ⟨its, r, ⟨⟨cls, dd, data, sl⟩, ho, hc, n, hd⟩, hs⟩ := I.tuple hT
  simp only at hc hd
  subst hc hd
  have hle : its.length = xs.length := r.length.symm
  have hn : its ≠ [] := fun e => hne (by
    rw [e] at hle
    exact List.eq_nil_of_length_eq_zero hle.symm)
  have hp : 1 ≤ xs.length := by
    cases xs with
    | nil => exact absurd rfl hne
    | cons a b => simp
  have hi : its.toArray.isEmpty = false := by
    cases its with
    | nil => exact absurd rfl hn
    | cons a b => rfl
  have hsz0 : its.toArray.size = xs.length := by rw [List.size_toArray, hle]
  have hk : k.toNat ≤ 100000 := Nat.le_trans (by have := Nat.mul_le_mul_left k.toNat hp; omega) hz
  have hkn : k = (k.toNat : Int) := by omega
  have hm : ((its.toArray.size : Nat) : Int) * k ≤ 100000 := by
    rw [hsz0, hkn, ← Int.natCast_mul, Nat.mul_comm]
    exact Int.ofNat_le.mpr hz
  have flen : (List.replicate k.toNat its).flatten.length ≤ sizeLine := by
    rw [PyProof.Rows.lm_len_rep_flat, hle, sizeLine_eq]
    omega
  have c0 : (decide (k < -(2 ^ 63)) || decide (k ≥ 2 ^ 63)) = false := by
    rw [decide_eq_false (by omega), decide_eq_false (by omega)] <;> rfl
  have c1 : (its.toArray.isEmpty || k == 1) = false := by
    rw [hi, Bool.false_or]
    exact beq_eq_false_iff_ne.mpr (by omega)
  have c2 : (decide (k ≤ 0) || its.toArray.isEmpty) = false := by
    rw [hi, Bool.or_false]
    exact decide_eq_false (by omega)
  have c4 : Builtin.Tuple.tupleTooMany (((its.toArray.size : Nat) : Int) * k) = false := by
    unfold Builtin.Tuple.tupleTooMany
    rw [sizeLine_eq]
    exact decide_eq_false (by omega)
  refine wpAny_binaryOp_repeat_ref (T := "tuple") (U := "int") (by decide) ⟨_, ho, rfl⟩ (fun s' => typeIs_int s' k t) noFill_tuple_mul F.fills_int_mul F.slot_int_rmul repeat_tuple F.slot_int_index.lookup
    (call_meets F.slot_int_rmul (typeIs_int s k t) F.entry_int_rmul (F.args_int_rmul_2 _ _) (int_rmul_tuple k t l its.toArray n dd sl)
      ⟨ho, rfl, ⟨_, ho, rfl⟩, call_meets F.slot_tuple_mul ⟨_, ho, rfl⟩ F.entry_tuple_mul (F.args_tuple_mul_2 _ _) (tuple_mulW l its.toArray n dd sl k t c0 c1 c2 (by omega) c4 (by rw [size_rep, List.size_toArray]; exact flen)) ⟨ho, ?_⟩⟩)
  rw [size_rep]
  refine ⟨.ref s.heap.objs.size, _, I.laid (t' := s.toks) (o := .tup (List.replicate k.toNat xs).flatten) (fun b ob q => Heap.get?_push_of_some _ q) (Nat.le_refl _) ?_, rfl, q _ (I.hok.fresh (Nat.le_refl _))⟩
  exact ⟨by rw [PyProof.Rows.lm_len_rep_flat, sizeLine_eq]; omega, _, r.rep k.toNat, IsTup.new _ _⟩
end
end L2
namespace Pd
open PySem PySem.Spec PyProof.Rows L2 Evl
theorem k_repW {X : Cx} {K : PySem.W.Frag} (hK : X.K = K) : OpR X (binaryOp .Mult) (rRepW K) := by subst hK; exact op_repW
theorem ed_repW {K : PySem.W.Frag} {σ : L2.St} {H : Hp} {ta tb : TE} {n : Nat} {d : PyData} (ha : EvD ta σ H (.tuple [d])) (hb : EvD tb σ H (.int (n : Nat))) (h2 : 2 ≤ n) (hn : n ≤ 100000) : EvD (tOp (rRepW K) ta tb) σ H (.tuple (List.replicate n d)) :=
  ed_op ha hb fun x y H1 e hx hy Q q => by
    obtain ⟨p, xs, rfl, h1, h2'⟩ := hx.t
    cases hy.i
    obtain ⟨v, rfl, iv⟩ := h2'.one
    refine ⟨p, (n : Nat), [v], rfl, rfl, SqT.of h1, List.cons_ne_nil _ _, by omega, by rw [Int.toNat_natCast]; show n * 1 ≤ _; omega, fun r hr => ?_⟩
    refine q _ _ (Ex.new hr) (.tup upd_same ?_)
    rw [Int.toNat_natCast]
    exact Ims.rep1 (iv.mono (Ex.new hr)) n
/-- xs.pop() -/
theorem k_pop0 {X : Cx} {K : PySem.W.Frag} (hK : X.K = K) {o : Expr} {to : TE} {apos cpos : Pos} (ho : PE X o to)
    (hbase : attributeBase o "pop" X.env (eval o X.env) = eval o X.env := by rfl) (hline : (apos.endLine == cpos.line) = true := by rfl) : PE X (.Call (.Attribute o "pop" apos) [] [] cpos) (tBM0 K "list" rPop to) := by subst hK; exact pe_bm0 PySem.F.plainAttrs_list PySem.F.slot_list_pop PySem.F.type_list_pop mt_pop ho hbase hline
end Pd
set_option Elab.async false
set_option linter.all false
set_option maxRecDepth 100000
set_option maxHeartbeats 2000000
/-! Eg: what expressions come to that draw from the tape: still data of which P holds. -/
namespace Pd
open PySem PyProof.Rows L2 Evl
def EvG (t c : Addr) (te : TE) (σ : L2.St) (H : Hp) (P : PyData → Prop) : Prop := ∀ H1, Go t c H H1 → ∀ Q : VK, (∀ v d H2, Go t c H1 H2 → still d = true → P d → Im H2 v d → Q v H2) → te σ H1 Q
def EvGs (t c : Addr) (ta : TA) (σ : L2.St) (H : Hp) (P : List PyData → Prop) : Prop := ∀ H1, Go t c H H1 → ∀ Q : List V → Hp → Prop, (∀ vs ds H2, Go t c H1 H2 → stills ds = true → P ds → Ims H2 vs ds → Q vs H2) → ta σ H1 Q
def EvGT (t c : Addr) (tt : TT) (σ : L2.St) (H : Hp) (P : Bool → Prop) : Prop := ∀ H1, Go t c H H1 → ∀ Q : Bool → Hp → Prop, (∀ b H2, Go t c H1 H2 → P b → Q b H2) → tt σ H1 Q
section
variable {K : PySem.W.Frag} {σ : L2.St} {H H' : Hp} {ta tb te tx tl to : TE} {u u2 : TT} {x y z v : V} {d d' e' : PyData} {ds es : List PyData} {t c : Addr} {P P' P2 : PyData → Prop} {PB PB' : Bool → Prop} {D : Ends} {tu tz tw : TS}
theorem stills_cons {d : PyData} {ds : List PyData} : stills (d :: ds) = (still d && stills ds) := rfl
theorem stills_mem : ∀ {ds : List PyData}, stills ds = true → ∀ d ∈ ds, still d = true
  | [], _, d, h => by cases h
  | a :: l, s, d, h => by
    have s' := Bool.and_eq_true_iff.mp (show (still a && stills l) = true from s)
    rcases List.mem_cons.mp h with rfl | h
    · exact s'.1
    · exact stills_mem s'.2 d h
theorem stills_ofm : ∀ {ds : List PyData}, (∀ d ∈ ds, still d = true) → stills ds = true
  | [], _ => rfl
  | a :: l, h => by
    show (still a && stills l) = true
    rw [h a (List.mem_cons_self ..), stills_ofm fun d hd => h d (List.mem_cons_of_mem _ hd)]
    rfl
theorem stills_app {ds es : List PyData} (h : stills ds = true) (k : stills es = true) : stills (ds ++ es) = true := stills_ofm fun d hd => by
  rcases List.mem_append.mp hd with h1 | h1
  · exact stills_mem h d h1
  · exact stills_mem k d h1
theorem EvG.mono (g : Go t c H H') (h : EvG t c te σ H P) : EvG t c te σ H' P := fun H1 g1 Q q => h H1 (g.trans g1) Q q
theorem EvG.w (h : EvG t c te σ H P) (hp : ∀ d, P d → P' d) : EvG t c te σ H P' := fun H1 g1 Q q => h H1 g1 Q fun v d H2 g2 s p iv => q v d H2 g2 s (hp d p) iv
theorem EvGT.w (h : EvGT t c u σ H PB) (hp : ∀ b, PB b → PB' b) : EvGT t c u σ H PB' := fun H1 g1 Q q => h H1 g1 Q fun b H2 g2 p => q b H2 g2 (hp b p)
theorem eg_d (h : ∀ H1, Go t c H H1 → EvD te σ H1 d) (hs : still d = true) (hp : P d) : EvG t c te σ H P := fun H1 g Q q =>
  h H1 g H1 (Ex.refl H1) Q fun v H2 e iv => q v d H2 (Go.of g.2 e) hs hp iv
theorem eg_var {i : Nat} (h : σ[i]? = some (some v)) (iv : Im H v d) (hs : still d = true) (hp : P d) : EvG t c (tVar i) σ H P := eg_d (fun H1 g => ed_var h (g.im hs iv)) hs hp
theorem eg_c (h : ∀ H1, Im H1 v d) (hs : still d = true) (hp : P d) : EvG t c (tC v) σ H P := eg_d (fun H1 g => ed_c (h H1)) hs hp
theorem eg_i (i : Int) (hp : P (.int i)) : EvG t c (tC (.int i)) σ H P := eg_c (fun _ => .int i) rfl hp
theorem eg_s (i : Str) (hp : P (.str i)) : EvG t c (tC (.str i)) σ H P := eg_c (fun _ => .str i) rfl hp
theorem eg_b (i : Bool) (hp : P (.bool i)) : EvG t c (tC (.bl i)) σ H P := eg_c (fun _ => .bl i) rfl hp
theorem eg_n (hp : P .none) : EvG t c (tC .non) σ H P := eg_c (fun _ => .non) rfl hp
theorem egs0 {PP : List PyData → Prop} (hp : PP []) : EvGs t c tNil σ H PP := fun H1 g Q q => q _ _ H1 (Go.refl g.2) rfl hp .nil
theorem egs1 {PP : List PyData → Prop} {tr : TA} (h : EvG t c te σ H P) (hr : ∀ d, P d → EvGs t c tr σ H fun ds => PP (d :: ds)) : EvGs t c (tCons te tr) σ H PP := fun H1 g Q q =>
  h H1 g _ fun v d H2 g2 s p iv => hr d p H2 (g.trans g2) _ fun vs ds H3 g3 s3 p3 ivs => q _ _ H3 (g2.trans g3) (by rw [stills_cons, s, s3]; rfl) p3 (.cons (g3.im s iv) ivs)
theorem EvGs.w {ta : TA} {PP PP' : List PyData → Prop} (h : EvGs t c ta σ H PP) (hp : ∀ d, PP d → PP' d) : EvGs t c ta σ H PP' := fun H1 g1 Q q => h H1 g1 Q fun v d H2 g2 s p iv => q v d H2 g2 s (hp d p) iv
theorem eg_tup {ta : TA} (h : EvGs t c ta σ H fun ds => ds.length ≤ 100000 ∧ P (.tuple ds)) : EvG t c (tTup ta) σ H P := fun H1 g Q q =>
  h H1 g _ fun vs ds H2 g2 s ⟨hl, p⟩ ivs => ⟨sz_of (by rw [ivs.length]; exact hl), fun a ha => q _ (.tuple ds) _ (g2.ex (Ex.new ha)) (show still (.tuple ds) = true from s) p (.tup upd_same (ivs.mono (Ex.new ha)))⟩
/-- a drawn number -/
theorem eg_draw {it : Nat} {m : Nat} {E : XK} (ht : σ[it]? = some (some (.ref t))) (hm : ∀ H1, Go t c H H1 → EvD tb σ H1 (.int (m : Nat))) (h1 : 1 ≤ m) (h2 : m ≤ 1000) (hp : ∀ r : Nat, r < m → P (.int (r : Nat))) :
    EvG t c (tCall sp_draw [] E (tCons (tVar it) (tCons tb tNil))) σ H P := fun H1 g Q q => drawn ht g.2 (hm H1 g) h1 h2 fun r hr H2 g2 => q _ _ H2 g2 rfl (hp r hr) (.int _)
/-- one of a written list of still data is picked -/
theorem eg_pick {it : Nat} {ta : TA} {E : XK} (ht : σ[it]? = some (some (.ref t))) (h : EvGs t c ta σ H fun ds => ds ≠ [] ∧ ds.length ≤ 1000 ∧ ∀ d ∈ ds, P d) :
    EvG t c (tCall sp_pick [] E (tCons (tVar it) (tCons (tLst ta) tNil))) σ H P := fun H1 g Q q => by
  refine callA (consA (var_run ht (consA (lstA ?_))))
  refine h H1 g _ fun vs ds H2 g2 s ⟨hn, hl, hp⟩ iv => ⟨sz_of (by rw [iv.length]; omega), fun p hpn => ?_⟩
  have TP := g2.2.ex (Ex.new (o := .lst vs) hpn)
  refine ⟨t, c, p, vs, rfl, TP, g2.2.notin hpn, upd_same, fun z => ?_, by rw [iv.length]; omega, fun i x hx H' g3 => ?_⟩
  · subst z
    cases iv
    exact hn rfl
  · obtain ⟨d, hd, im⟩ := (iv.mono (Ex.new (o := .lst vs) hpn)).get hx
    have hm := List.mem_of_getElem? hd
    exact q x d H' ((g2.ex (Ex.new (o := .lst vs) hpn)).trans g3) (stills_mem s d hm) (hp d hm) (g3.im (stills_mem s d hm) im)
/-- one of a list at p -/
theorem eg_pickAt {it : Nat} {p : Addr} {xs : List V} {E : XK} (ht : σ[it]? = some (some (.ref t))) (hp : ∀ H1, Go t c H H1 → Ev tb σ H1 (.ref p)) (hn : p ∉ [t, c]) (hx : H p = some (.lst xs)) (iv : Ims H xs ds) (hs : stills ds = true) (h1 : ds ≠ []) (h2 : ds.length ≤ 1000) (hP : ∀ d ∈ ds, P d) :
    EvG t c (tCall sp_pick [] E (tCons (tVar it) (tCons tb tNil))) σ H P := fun H1 g Q q =>
  picked ht g.2 (hp H1 g) hn (g.at hn hx) (fun z => by subst z; cases iv; exact h1 rfl) (by rw [iv.length]; exact h2) fun i x hx H2 g2 => by
    obtain ⟨d, hd, im⟩ := iv.get hx
    have hm := List.mem_of_getElem? hd
    exact q x d H2 g2 (stills_mem hs d hm) (hP d hm) ((g.trans g2).im (stills_mem hs d hm) im)
/-- a def that draws -/
def SpG (D : List PyData → (PyData → Prop) → Prop) : Sp := fun vs H Q _ => ∃ (t c : Addr) (ws : List V) (ds : List PyData) (P : PyData → Prop), vs = .ref t :: ws ∧ Tape t c H ∧ stills ds = true ∧ Ims H ws ds ∧ D ds P ∧ ∀ v d H', Go t c H H' → still d = true → P d → Im H' v d → Q v H'
theorem eg_call {it : Nat} {ta : TA} {E : XK} {DD : List PyData → (PyData → Prop) → Prop} (ht : σ[it]? = some (some (.ref t))) (h : EvGs t c ta σ H fun ds => DD ds P) : EvG t c (tCall (SpG DD) [] E (tCons (tVar it) ta)) σ H P := fun H1 g Q q => by
  refine callA (consA (var_run ht ?_))
  refine h H1 g _ fun vs ds H2 g2 s p ivs => ⟨t, c, vs, ds, P, by rw [List.append_nil], g2.2, s, ivs, p, fun v d H3 g3 s3 p3 iv => q v d H3 (g2.trans g3) s3 p3 iv⟩
theorem SpG.len {DD : List PyData → (PyData → Prop) → Prop} {n : Nat} (h : ∀ ds P, DD ds P → ds.length + 1 = n) : ∀ vs H Q E, SpG DD vs H Q E → vs.length = n := fun vs H Q E ⟨t, c, ws, ds, P, e, _, _, iv, hd, _⟩ => by
  rw [e, List.length_cons, iv.length]; exact h ds P hd
/-- operators -/
theorem eg_catA {PA PB : List PyData → Prop} (ha : EvG t c ta σ H fun d => ∃ ds, d = .tuple ds ∧ PA ds) (hb : EvG t c tb σ H fun d => ∃ ds, d = .tuple ds ∧ PB ds) (hp : ∀ ds es, PA ds → PB es → ds.length + es.length ≤ 100000 ∧ P (.tuple (ds ++ es))) :
    EvG t c (tOp (rCatA K) ta tb) σ H P := fun H1 g Q q =>
  ha H1 g _ fun x d H2 g2 s2 ⟨ds, ed, pa⟩ ix => hb H2 (g.trans g2) _ fun y d' H3 g3 s3 ⟨es, ed', pb⟩ iy => by
    subst ed; subst ed'
    obtain ⟨p, xs, rfl, h1, h2⟩ := (g3.im s2 ix).t
    obtain ⟨p', xs', rfl, h1', h2'⟩ := iy.t
    obtain ⟨hz, pp⟩ := hp ds es pa pb
    have st : still (.tuple (ds ++ es)) = true := stills_app s2 s3
    refine ⟨p, p', xs, xs', rfl, rfl, SqT.of h1, SqT.of h1', sz_of (by rw [h2.length, h2'.length]; exact hz), fun z => ?_, fun _ z => ?_, fun _ _ r hr => ?_⟩
    · subst z; cases h2; exact q _ _ H3 (g2.trans g3) st pp (.tup h1' h2')
    · subst z; cases h2'; rw [List.append_nil] at pp st; exact q _ _ H3 (g2.trans g3) st pp (.tup h1 h2)
    · exact q _ _ _ ((g2.trans g3).ex (Ex.new hr)) st pp (.tup upd_same ((h2.append h2').mono (Ex.new hr)))
theorem eg_I0 {gg : Int → Int → Int} {PA PB : Int → Prop} (ha : EvG t c ta σ H fun d => ∃ i, d = .int i ∧ PA i) (hb : EvG t c tb σ H fun d => ∃ i, d = .int i ∧ PB i) (hp : ∀ i j, PA i → PB j → P (.int (gg i j))) :
    EvG t c (tOp (rI0 fun i j => .int (gg i j)) ta tb) σ H P := fun H1 g Q q =>
  ha H1 g _ fun x d H2 g2 s2 ⟨i, ed, pa⟩ ix => hb H2 (g.trans g2) _ fun y d' H3 g3 s3 ⟨j, ed', pb⟩ iy => by
    subst ed; subst ed'
    exact ⟨i, j, ix.i, iy.i, q _ _ H3 (g2.trans g3) rfl (hp i j pa pb) (.int _)⟩
theorem eg_B0 {gg : Int → Int → Bool} {PA PB : Int → Prop} (ha : EvG t c ta σ H fun d => ∃ i, d = .int i ∧ PA i) (hb : EvG t c tb σ H fun d => ∃ i, d = .int i ∧ PB i) (hp : ∀ i j, PA i → PB j → P (.bool (gg i j))) :
    EvG t c (tOp (rI0 fun i j => .bl (gg i j)) ta tb) σ H P := fun H1 g Q q =>
  ha H1 g _ fun x d H2 g2 s2 ⟨i, ed, pa⟩ ix => hb H2 (g.trans g2) _ fun y d' H3 g3 s3 ⟨j, ed', pb⟩ iy => by
    subst ed; subst ed'
    exact ⟨i, j, ix.i, iy.i, q _ _ H3 (g2.trans g3) rfl (hp i j pa pb) (.bl _)⟩
theorem eg_eqI {PA PB : Int → Prop} (ha : EvG t c ta σ H fun d => ∃ i, d = .int i ∧ PA i) (hb : EvG t c tb σ H fun d => ∃ i, d = .int i ∧ PB i) (hp : ∀ i j, PA i → PB j → P (.bool (decide (i = j)))) :
    EvG t c (tOp rEq ta tb) σ H P := fun H1 g Q q =>
  ha H1 g _ fun x d H2 g2 s2 ⟨i, ed, pa⟩ ix => hb H2 (g.trans g2) _ fun y d' H3 g3 s3 ⟨j, ed', pb⟩ iy => by
    subst ed; subst ed'
    rw [ix.i, iy.i]
    refine ⟨rfl, ?_⟩
    have h := q _ _ H3 (g2.trans g3) rfl (hp i j pa pb) (.bl (decide (i = j)))
    have e2 : decide (V.int i = V.int j) = decide (i = j) := by by_cases c : i = j <;> simp [c]
    rw [e2]; exact h
theorem eg_if (h : EvGT t c u σ H PB) (h1 : PB true → EvG t c ta σ H P) (h2 : PB false → EvG t c tb σ H P) : EvG t c (tIf u ta tb) σ H P := fun H1 g Q q => h H1 g _ fun b H2 g2 p => by
  cases b with
  | true =>
    show ta σ H2 Q
    exact h1 p H2 (g.trans g2) Q fun v d H3 g3 => q v d H3 (g2.trans g3)
  | false =>
    show tb σ H2 Q
    exact h2 p H2 (g.trans g2) Q fun v d H3 g3 => q v d H3 (g2.trans g3)
/-- tests -/
theorem egt_test (h : EvG t c te σ H fun d => ∃ b, d = .bool b ∧ PB b) : EvGT t c (tTest te) σ H PB := fun H1 g Q q => h H1 g _ fun v d H2 g2 s ⟨b, ed, p⟩ iv => by
  subst ed
  exact ⟨b, iv.b, q b H2 g2 p⟩
theorem egt_B (h : EvG t c te σ H fun d => ∃ b, d = .bool b ∧ PB b) : EvGT t c (tB te) σ H PB := fun H1 g Q q => h H1 g _ fun v d H2 g2 s ⟨b, ed, p⟩ iv => by
  subst ed
  exact ⟨b, iv.b, q b H2 g2 p⟩
theorem egt_d {b : Bool} (h : ∀ H1, Go t c H H1 → EvT u σ H1 b) (hp : PB b) : EvGT t c u σ H PB := fun H1 g Q q => h H1 g H1 (Ex.refl H1) Q fun H2 e => q b H2 (Go.of g.2 e) hp
theorem egt_and {PA PC : Bool → Prop} (h1 : EvGT t c u σ H PA) (h2 : PA true → EvGT t c u2 σ H PB) (hf : PA false → PC false) (ht : ∀ b, PA true → PB b → PC b) : EvGT t c (tAnd u u2) σ H PC := fun H1 g Q q => h1 H1 g _ fun b H2 g2 p => by
  cases b with
  | false =>
    show Q false H2
    exact q false H2 g2 (hf p)
  | true =>
    show u2 σ H2 Q
    exact h2 p H2 (g.trans g2) Q fun b H3 g3 p3 => q b H3 (g2.trans g3) (ht b p p3)
theorem egt_or {PA PC : Bool → Prop} (h1 : EvGT t c u σ H PA) (h2 : PA false → EvGT t c u2 σ H PB) (ht : PA true → PC true) (hf : ∀ b, PA false → PB b → PC b) : EvGT t c (tOr u u2) σ H PC := fun H1 g Q q => h1 H1 g _ fun b H2 g2 p => by
  cases b with
  | true =>
    show Q true H2
    exact q true H2 g2 (ht p)
  | false =>
    show u2 σ H2 Q
    exact h2 p H2 (g.trans g2) Q fun b H3 g3 p3 => q b H3 (g2.trans g3) (hf b p p3)
theorem egt_not (h1 : EvGT t c u σ H PB) : EvGT t c (tNot u) σ H (fun b => PB (!b)) := fun H1 g _ q => h1 H1 g _ fun b H2 g2 p => q (!b) H2 g2 (by show PB (!(!b)); rw [Bool.not_not]; exact p)
/-- statements -/
theorem q_asgG {i : Nat} (T : Tape t c H) (h : EvG t c te σ H P) (k : ∀ v d H1, Go t c H H1 → still d = true → P d → Im H1 v d → tz D (σ.set i (some v)) H1) : tSeq (tAsg te (gName i)) tz D σ H := h H (Go.refl T) _ fun v d H1 g s p iv => k v d H1 g s p iv
theorem s_asgG {i : Nat} (T : Tape t c H) (h : EvG t c te σ H P) (k : ∀ v d H1, Go t c H H1 → still d = true → P d → Im H1 v d → D.nx (σ.set i (some v)) H1) : tAsg te (gName i) D σ H := h H (Go.refl T) _ fun v d H1 g s p iv => k v d H1 g s p iv
theorem s_retG (T : Tape t c H) (h : EvG t c te σ H P) (k : ∀ v d H1, Go t c H H1 → still d = true → P d → Im H1 v d → D.rt v H1) : tRet te D σ H := h H (Go.refl T) _ fun v d H1 g s p iv => k v d H1 g s p iv
theorem q_whenG (T : Tape t c H) (h : EvGT t c u σ H PB) (h1 : PB true → ∀ H1, Go t c H H1 → tu { D with nx := tz D } σ H1) (h2 : PB false → ∀ H1, Go t c H H1 → tz D σ H1) : tSeq (tIfS u tu tNext) tz D σ H := h H (Go.refl T) _ fun b H1 g p => by
  cases b with
  | true =>
    show tu _ σ H1
    exact h1 p H1 g
  | false =>
    show tz D σ H1
    exact h2 p H1 g
theorem s_ifG (T : Tape t c H) (h : EvGT t c u σ H PB) (h1 : PB true → ∀ H1, Go t c H H1 → tu D σ H1) (h2 : PB false → ∀ H1, Go t c H H1 → tw D σ H1) : tIfS u tu tw D σ H := h H (Go.refl T) _ fun b H1 g p => by
  cases b with
  | true =>
    show tu _ σ H1
    exact h1 p H1 g
  | false =>
    show tw D σ H1
    exact h2 p H1 g
theorem q_ifG (T : Tape t c H) (h : EvGT t c u σ H PB) (h1 : PB true → ∀ H1, Go t c H H1 → tu { D with nx := tz D } σ H1) (h2 : PB false → ∀ H1, Go t c H H1 → tw { D with nx := tz D } σ H1) : tSeq (tIfS u tu tw) tz D σ H := s_ifG (D := { D with nx := tz D }) T h h1 h2
/-- found.append(e), found a list of its own -/
theorem s_appG {l : Addr} {xs : List V} (T : Tape t c H) (hl : H l = some (.lst xs)) (hn : l ∉ [t, c]) (ha : Ev ta σ H (.ref l)) (h : EvG t c te σ H P) (hz : xs.length < 100000) (k : ∀ v d H1, Go t c H H1 → still d = true → P d → H1 l = some (.lst xs) → Im (L2.upd H1 l (.lst (xs ++ [v]))) v d → D.nx σ (L2.upd H1 l (.lst (xs ++ [v])))) :
    tDrop (tBM K "list" rAppend ta (tCons te tNil)) D σ H := ha H (Ex.refl H) _ fun H1 e1 =>
  ⟨Or.inl ⟨rfl, xs, sq_of (e1 l _ hl)⟩, h H1 (Go.of T e1) _ fun v d H2 g2 s p iv => by
    have h2 := g2.at hn (e1 l _ hl)
    exact ⟨l, xs, v, rfl, rfl, h2, sz_lt hz, k v d H2 ((Go.of T e1).trans g2) s p h2 (iv.tx (tx_lst h2) s)⟩⟩
end
end Pd
set_option Elab.async false
set_option linter.all false
set_option maxRecDepth 100000
set_option maxHeartbeats 2000000
/-! Zst: zip(a text of plain signs, a tuple). -/
namespace Pd
open PySem PySem.Spec PyProof.Rows L2 Evl
open AutoSeq1 (wpAny_loadPart')
abbrev zsH1 (h : Heap) (x : Str) (t : Tok) : Heap := h.push { cls := .type "str_ascii_iterator", data := .fields #[.str x t, .int 0 0] }
abbrev zsH2 (h : Heap) (x : Str) (t : Tok) (l2 : Addr) : Heap := (zsH1 h x t).push { cls := .type "tuple_iterator", data := .fields #[.ref l2, .int 0 0] }
abbrev zsH3 (h : Heap) (x : Str) (t : Tok) (l2 : Addr) : Heap := (zsH2 h x t l2).push { cls := .type "tuple", data := .seq #[.ref h.objs.size, .ref (zsH1 h x t).objs.size] }
abbrev zsH4 (h : Heap) (x : Str) (t : Tok) (l2 : Addr) : Heap := (zsH3 h x t l2).push { cls := .type "tuple", data := .seq #[.none, .none] }
abbrev zsH5 (h : Heap) (x : Str) (t : Tok) (l2 : Addr) : Heap := (zsH4 h x t l2).push { cls := .type "zip", data := .fields #[.none, .bool false, .bool false, .ref (zsH2 h x t l2).objs.size, .ref (zsH3 h x t l2).objs.size] }
theorem meets_zipS_new (x : Str) (t : Tok) (l2 : Addr) (ys : Array Value) (ha : x.cps.all (· < 128) = true) :
    Meets (Builtin.«zip.__new__» ⟨[.type "zip", .str x t, .ref l2], []⟩) (fun _ R s => s.heap.IsTuple l2 ys ∧
      R (.ok (.ret (.ref (zsH4 s.heap x t l2).objs.size))) { s with heap := zsH5 s.heap x t l2 }) :=
  .of_wp fun prog w A R s h => by
    obtain ⟨hp, g, d, tk, os⟩ := s; obtain ⟨hl2, h⟩ := h
    have hsub := sub_zip
    have hL2 : Heap.IsTuple (Shared.heap ⟨hp.push { cls := .type "str_ascii_iterator", data := .fields #[.str x t, .int 0 0] }, g, d, tk, os⟩) l2 ys := Heap.IsTuple.push hl2 _
    wp_walk using wpAny_pyIter_ascii ha, wpAny_pyIter_tuple hL2
    exact ⟨_, rfl, h⟩
section
variable {prog : Program} {w : World} {A : Around} {E : Value → Shared → Prop} {s : Shared}
theorem call_zipS {x : Str} {t : Tok} {l2 : Addr} {ys : Array Value} {Q : Value → Shared → Prop} (ha : x.cps.all (· < 128) = true) (hl2 : s.heap.IsTuple l2 ys)
    (h : ∀ h', IsZip h' (s.heap.objs.size + 4) (s.heap.objs.size + 2) (s.heap.objs.size + 3) .none → IsTupOf2 h' (s.heap.objs.size + 2) (.ref s.heap.objs.size) (.ref (s.heap.objs.size + 1)) →
      IsTupOf2 h' (s.heap.objs.size + 3) .none .none → h'.IsStrIter s.heap.objs.size "str_ascii_iterator" x t 0 → h'.IsTupleIter (s.heap.objs.size + 1) l2 0 → h'.objs.size = s.heap.objs.size + 5 →
      (∀ c o, s.heap.get? c = some o → h'.get? c = some o) → Q (.ref (s.heap.objs.size + 4)) { s with heap := h' }) :
    wpAny (model prog w) A (call (.type "zip") [.str x t, .ref l2]) Q E s := by
  refine callType_new F.called_zip (by decide) (F.typeCall_zip_2 _ _) (F.newCall_zip_2 _ _) (fun obj => F.args_object_init_3 obj _ _) F.entry_zip_new
    (meets_zipS_new x t l2 ys ha) ⟨hl2, ?_⟩
  have z1 : (zsH1 s.heap x t).objs.size = s.heap.objs.size + 1 := Heap.size_push ..
  have z2 : (zsH2 s.heap x t l2).objs.size = s.heap.objs.size + 2 := by rw [Heap.size_push, z1]
  have z3 : (zsH3 s.heap x t l2).objs.size = s.heap.objs.size + 3 := by rw [Heap.size_push, z2]
  have z4 : (zsH4 s.heap x t l2).objs.size = s.heap.objs.size + 4 := by rw [Heap.size_push, z3]
  have z5 : (zsH5 s.heap x t l2).objs.size = s.heap.objs.size + 5 := by rw [Heap.size_push, z4]
  have g5 : (zsH5 s.heap x t l2).get? (zsH4 s.heap x t l2).objs.size = some _ := Heap.get?_push_size _ rfl
  have g4 : (zsH5 s.heap x t l2).get? (zsH3 s.heap x t l2).objs.size = some _ := Heap.get?_push_of_some _ (Heap.get?_push_size _ rfl)
  have g3 : (zsH5 s.heap x t l2).get? (zsH2 s.heap x t l2).objs.size = some _ := Heap.get?_push_of_some _ (Heap.get?_push_of_some _ (Heap.get?_push_size _ rfl))
  have g2 : (zsH5 s.heap x t l2).get? (zsH1 s.heap x t).objs.size = some _ := Heap.get?_push_of_some _ (Heap.get?_push_of_some _ (Heap.get?_push_of_some _ (Heap.get?_push_size _ rfl)))
  have g1 : (zsH5 s.heap x t l2).get? s.heap.objs.size = some _ := Heap.get?_push_of_some _ (Heap.get?_push_of_some _ (Heap.get?_push_of_some _ (Heap.get?_push_of_some _ (Heap.get?_push_size _ rfl))))
  show _ ∧ _
  rw [z2, z3, z4] at g5
  rw [z1, z2] at g3
  rw [z3] at g4
  rw [z1] at g2
  rw [z4]
  exact ⟨⟨_, g5, rfl⟩, h _ g5 g3 g4 ⟨_, g1, rfl, rfl⟩ ⟨_, g2, rfl, rfl⟩ z5 fun c o x =>
    Heap.get?_push_of_some _ (Heap.get?_push_of_some _ (Heap.get?_push_of_some _ (Heap.get?_push_of_some _ (Heap.get?_push_of_some _ x))))⟩
end
/-- the text and the tuple at b, sign by item, in new pairs -/
def Izs (K : PySem.W.Frag) (x : Str) (b : Addr) : It :=
  ⟨fun i H => ∃ (ys : List V) (y : V) (c : Nat), SqT K H b ys ∧ x.cps[i]? = some c ∧ ys[i]? = some y,
    fun i H v H' => ∃ T c y, v = .ref T ∧ H T = none ∧ H' = upd H T (.tup [.str ⟨#[c]⟩, y]) ∧ x.cps[i]? = some c ∧ ∀ ys, SqT K H b ys → ys[i]? = some y,
    fun i H => ∃ ys : List V, SqT K H b ys ∧ i ≤ x.cps.size ∧ i ≤ ys.length ∧ (i = x.cps.size ∨ i = ys.length)⟩
theorem turn_zipS {P : Program} {w : World} {K : PySem.W.Frag} {elts : List Expr} {kk : Nat} {tpos : Pos} (x : Str) (t : Tok) (b : Addr) {z TI TO i1 i2 : Addr} (D : ZipSep2 z TI TO i1 i2 [i1] [i2, b]) :
    Turn P w K (.Tuple elts kk tpos) (Izs K x b) [z, TI, TO, i1, i2] z (fun i h => IsZip h z TI TO .none ∧ IsTupOf2 h TI (.ref i1) (.ref i2) ∧ (∃ p q, IsTupOf2 h TO p q) ∧ h.IsStrIter i1 "str_ascii_iterator" x t i ∧ h.IsTupleIter i2 b i) where
  mem := by simp
  obj := fun i h st c hc => by
    obtain ⟨hz, hTI, ⟨p, q, hTO⟩, ⟨o1, e1, _, d1⟩, ⟨o2, e2, _, d2⟩⟩ := st
    have e' : c = z ∨ c = TI ∨ c = TO ∨ c = i1 ∨ c = i2 := by simpa using hc
    rcases e' with q | q | q | q | q
    · rw [q]; exact ⟨_, hz, fun v q => nomatch q⟩
    · rw [q]; exact ⟨_, hTI, fun v q => nomatch q⟩
    · rw [q]; exact ⟨_, hTO, fun v q => nomatch q⟩
    · rw [q]; exact ⟨o1, e1, fun v q => by rw [d1] at q; cases q⟩
    · rw [q]; exact ⟨o2, e2, fun v q => by rw [d2] at q; cases q⟩
  keep := fun i h h' st k => by
    obtain ⟨hz, hTI, ⟨p, q, hTO⟩, ⟨o1, e1, r1⟩, h2⟩ := st
    exact ⟨k z (by simp) _ hz, k TI (by simp) _ hTI, ⟨p, q, k TO (by simp) _ hTO⟩, ⟨o1, k i1 (by simp) _ e1, r1⟩, h2.at fun o q => k i2 (by simp) o q⟩
  item := by
    intro X hP hw hK hc i pins s σ H E I hf st hg
    subst hP hw hK
    obtain ⟨hz, hTI, ⟨p0, q0, hTO⟩, h1, h2⟩ := st
    obtain ⟨ys, y, c, hqy, hx, hy⟩ := hg
    obtain ⟨its2, rv2, p2, _⟩ := I.tuple hqy
    obtain ⟨u2, hu2, ru2⟩ := rv2.get hy
    have hzl : z < s.heap.objs.size := Heap.lt_size hz
    have hbi : b ≠ i2 := fun zz => by
      obtain ⟨o1, g1, c1, _⟩ := p2
      obtain ⟨o2, g2, c2, _⟩ := h2
      rw [zz, g2] at g1
      cases g1
      rw [c2] at c1
      exact absurd (Value.type.inj c1) (by decide)
    have l1 : i < x.cps.size := (Array.getElem?_eq_some_iff.mp hx).1
    have l2 : i < its2.toArray.size := by
      have := (List.getElem?_eq_some_iff.mp hu2).1
      simpa using this
    refine wpAny_pyNext_zipD2_item D (Draws.strAscii (show X.A.in1.handled = none from I.ok.hd hc) i1 x t) (Draws.tuple (show X.A.in1.handled = none from I.ok.hd hc) i2 b hbi its2.toArray) hz hTI hTO h1 ⟨h2, p2⟩ l1 l2 fun x1 x2 h' tk hx1 hx2 z' TO' h1' h2' hT hsz hk => ?_
    obtain ⟨c', u', hc', rfl⟩ := hx1
    have ec : c' = c := by rw [hx] at hc'; exact (Option.some.inj hc').symm
    subst ec
    have ex2 : x2 = u2 := by
      have : its2.toArray[i]? = some u2 := by simpa using hu2
      rw [this] at hx2
      exact (Option.some.inj hx2).symm
    subst ex2
    refine ⟨_, rfl, wpAny_letOwnedTupleGo_zip (s := { s with heap := h', toks := tk }) z' fun h'' z'' sb => ?_⟩
    have hT2 : h''.get? s.heap.objs.size = some { cls := .type "tuple", data := .seq #[.str ⟨#[c']⟩ u', x2] } := (sb.2 _ (Nat.ne_of_gt hzl)).trans hT
    have new : ObjOk X.prog X.w (upd H s.heap.objs.size (.tup [.str ⟨#[c']⟩, y])) h'' s.heap.objs.size (.tup [.str ⟨#[c']⟩, y]) :=
      ⟨by show 2 ≤ sizeLine; decide, [.str ⟨#[c']⟩ u', x2], .cons ⟨_, rfl⟩ (.cons ru2 .nil), ⟨_, hT2, rfl, _, rfl⟩⟩
    have I1 : Inv X pins σ (upd H s.heap.objs.size (.tup [.str ⟨#[c']⟩, y])) { s with heap := h'', toks := tk } :=
      I.turnedNew (ch := [z, TI, TO, i1, i2]) (fun c o hb q => (sb.2 c (fun q' => hb (by simp [q']))).trans (hk c o (fun q' => hb (by simp [q'])) (fun q' => hb (by simp [q'])) (fun q' => hb (by simp [q'])) (fun q' => hb (by simp [q'])) q)) hf (Nat.le_refl _) new
    refine ⟨.ref s.heap.objs.size, _, I1, rfl, ⟨_, c', y, rfl, I.hok.fresh (Nat.le_refl _), rfl, hx, fun l hl => by rw [I.tuple_inj hl hqy]; exact hy⟩, ⟨z'', ?_, ⟨.str ⟨#[c']⟩ u', x2, ?_⟩, ?_, ?_⟩, fun c hcm => ?_⟩
    · exact (sb.2 _ D.TIz).trans (hk _ _ D.TIz D.TITO D.TIi1 D.TIi2 hTI)
    · exact (sb.2 _ D.TOz).trans TO'
    · obtain ⟨o1, e1, r1⟩ := h1'
      exact ⟨o1, (sb.2 _ (fun q => D.zi1 q.symm)).trans e1, r1⟩
    · exact h2'.1.at fun o q => (sb.2 _ (fun q => D.zi2 q.symm)).trans q
    · have hlt : c < s.heap.objs.size := by
        have e' : c = z ∨ c = TI ∨ c = TO ∨ c = i1 ∨ c = i2 := by simpa using hcm
        rcases e' with q | q | q | q | q
        · rw [q]; exact hzl
        · rw [q]; exact Heap.lt_size hTI
        · rw [q]; exact Heap.lt_size hTO
        · rw [q]; obtain ⟨_, e1, _⟩ := h1; exact Heap.lt_size e1
        · rw [q]; obtain ⟨_, e2, _⟩ := h2; exact Heap.lt_size e2
      rw [upd_ne (Nat.ne_of_lt hlt)]
      exact (hf c hcm).1
  done := by
    intro X hP hw hK hc i pins s σ H E I hf st hg
    subst hP hw hK
    obtain ⟨hz, hTI, ⟨p0, q0, hTO⟩, h1, h2⟩ := st
    obtain ⟨ys, hqy, hi1, hi2, hend⟩ := hg
    obtain ⟨its2, rv2, p2, _⟩ := I.tuple hqy
    have l2 : its2.toArray.size = ys.length := by rw [List.size_toArray, ← rv2.length]
    have hbi : b ≠ i2 := fun zz => by
      obtain ⟨o1, g1, c1, _⟩ := p2
      obtain ⟨o2, g2, c2, _⟩ := h2
      rw [zz, g2] at g1
      cases g1
      rw [c2] at c1
      exact absurd (Value.type.inj c1) (by decide)
    exact wpAny_pyNext_zipD2_end D (Draws.strAscii (show X.A.in1.handled = none from I.ok.hd hc) i1 x t) (Draws.tuple (show X.A.in1.handled = none from I.ok.hd hc) i2 b hbi its2.toArray) hz hTI hTO h1 ⟨h2, p2⟩ hi1 (by rw [l2]; exact hi2) (by rw [l2]; exact hend) fun h' tk hk => ⟨rfl, I.turnedL (t' := tk) (ch := [z, TI, TO, i1, i2]) (fun c o hb q =>
      hk c o (fun q' => hb (by simp [q'])) (fun q' => hb (by simp [q'])) (fun q' => hb (by simp [q'])) (fun q' => hb (by simp [q'])) q) hf⟩
  self := fun A i s Q E st h => wpAny_pyIter_zip st.1 h
def iZipS (K : PySem.W.Frag) (ta : TA) : TI := fun σ H R => ta σ H fun vs H1 => ∃ x b ys, vs = [.str x, .ref b] ∧ x.cps.all (· < 128) = true ∧ SqT K H1 b ys ∧ R (Izs K x b) H1
theorem pi_zipS {X : Cx} {e e2 : Expr} {ta : TA} {p pos tpos : Pos} {elts : List Expr} {kk : Nat} (hg : Gl X "zip") (hm : X.mg "zip" = none) (ha : PA X [e, e2] ta)
    (hs : starEach [e, e2] X.env = (false, eval e X.env) :: starEach [e2] X.env := by rfl) (hpl : (backTo pos (starEach [e2] X.env)).any (·.1) = false := by rfl) :
    PI X (.Tuple elts kk tpos) (.Call (.Name "zip" p) [e, e2] [] pos) (iZipS X.K ta) := by
  refine ⟨fun pins s σ H R I h => ?_⟩
  refine Call_ (ld_blt I hg hm PyProof.Rows.boot_zip (PyProof.Rows.callWith_type1 (thn (ha.run pos pins s σ H _ I h) fun us s1 ⟨vs, H1, I1, r1, q1⟩ => ?_) hs hpl))
  obtain ⟨x, b, ys, ex, hasc, hqy, q⟩ := q1
  subst ex
  cases r1 with
  | cons r rr =>
    cases rr with
    | cons r' rr =>
      cases rr
      obtain ⟨t, rfl⟩ := r
      cases r'
      have fresh5 : ∀ c, c ∈ [s1.heap.objs.size + 4, s1.heap.objs.size + 2, s1.heap.objs.size + 3, s1.heap.objs.size, s1.heap.objs.size + 1] → FpOk X pins H1 c := fun c hcm => by
        have e' : c = s1.heap.objs.size + 4 ∨ c = s1.heap.objs.size + 2 ∨ c = s1.heap.objs.size + 3 ∨ c = s1.heap.objs.size ∨ c = s1.heap.objs.size + 1 := by simpa using hcm
        have hle : s1.heap.objs.size ≤ c := by
          rcases e' with z | z | z | z | z
          · rw [z]; exact Nat.le_add_right _ _
          · rw [z]; exact Nat.le_add_right _ _
          · rw [z]; exact Nat.le_add_right _ _
          · rw [z]; exact Nat.le_refl _
          · rw [z]; exact Nat.le_add_right _ _
        exact I1.fpOk hle (I1.hok.fresh hle)
      obtain ⟨its2, rv2, p2, _⟩ := I1.tuple hqy
      obtain ⟨o2, ho2, _⟩ := id p2
      have hb : b < s1.heap.objs.size := Heap.lt_size ho2
      refine call_zipS hasc (show s1.heap.IsTuple b its2.toArray from p2) fun h' hz hTI hTO h1 h2 hsz hk => wpAny_pyIter_zip hz ?_
      have I2 : Inv X pins σ H1 { s1 with heap := h' } := I1.kept (t' := s1.toks) hk
      have D : ZipSep2 (s1.heap.objs.size + 4) (s1.heap.objs.size + 2) (s1.heap.objs.size + 3) s1.heap.objs.size (s1.heap.objs.size + 1) [s1.heap.objs.size] [s1.heap.objs.size + 1, b] := by
        have hb4 : ¬ s1.heap.objs.size + 4 = b := Nat.ne_of_gt (Nat.lt_of_lt_of_le hb (Nat.le_add_right _ _))
        have hb3 : ¬ s1.heap.objs.size + 3 = b := Nat.ne_of_gt (Nat.lt_of_lt_of_le hb (Nat.le_add_right _ _))
        have hb0 : ¬ s1.heap.objs.size = b := Nat.ne_of_gt hb
        constructor <;> simp [hb4, hb3, hb0]
      exact ⟨s1.heap.objs.size + 4, [s1.heap.objs.size + 4, s1.heap.objs.size + 2, s1.heap.objs.size + 3, s1.heap.objs.size, s1.heap.objs.size + 1], _, _, H1, rfl, I2, turn_zipS x t b D, ⟨hz, hTI, ⟨_, _, hTO⟩, h1, h2⟩, fresh5, q⟩
theorem k_pi_zipS {X : Cx} {K : PySem.W.Frag} (hK : X.K = K) {e e2 : Expr} {ta : TA} {p pos tpos : Pos} {elts : List Expr} {kk : Nat} (hg : Gl X "zip") (hm : X.mg "zip" = none) (ha : PA X [e, e2] ta)
    (hs : starEach [e, e2] X.env = (false, eval e X.env) :: starEach [e2] X.env := by rfl) (hpl : (backTo pos (starEach [e2] X.env)).any (·.1) = false := by rfl) :
    PI X (.Tuple elts kk tpos) (.Call (.Name "zip" p) [e, e2] [] pos) (iZipS K ta) := by subst hK; exact pi_zipS hg hm ha hs hpl
theorem walk_zipS {K : PySem.W.Frag} {x : Str} {b : Addr} {ys : List V} (hl : x.cps.size = ys.length) : Walk (Izs K x b) ys.length (fun H => SqT K H b ys) (fun i H v H' => ∃ T c y, v = .ref T ∧ H T = none ∧ H' = upd H T (.tup [.str ⟨#[c]⟩, y]) ∧ x.cps[i]? = some c ∧ ys[i]? = some y) :=
  ⟨fun i _ hi q => ⟨ys, ys[i], x.cps[i], q, by simp [hl, hi], by simp [hi]⟩, fun _ q => ⟨ys, q, by omega, Nat.le_refl _, .inr rfl⟩, fun i H v H' _ q y => by
    obtain ⟨T, c, y, e1, e2, e3, e4, e5⟩ := y
    exact ⟨T, c, y, e1, e2, e3, e4, e5 ys q⟩⟩
/-- the pairs of a text's signs and data -/
theorem wk_zipS {K : PySem.W.Frag} {σ : L2.St} {H : Hp} {ta tb : TE} {x : Str} {ds : List PyData} (h1 : EvD ta σ H (.str x)) (h2 : EvD tb σ H (.tuple ds)) (hasc : x.cps.all (· < 128) = true) (hl : x.cps.size = ds.length) : Wk (iZipS K (tCons ta (tCons tb tNil))) σ H (pairs (signs x) ds) := fun H1 e R r =>
  (ea1 h1 (ea1 h2 ea0)) H1 e _ fun vs H2 e2 iv => by
    obtain ⟨v, w, rfl, i1, i2⟩ := iv.two
    cases i1.s
    obtain ⟨p, xs, rfl, g1, g2⟩ := i2.t
    have hlx : x.cps.size = xs.length := by rw [g2.length]; exact hl
    refine ⟨x, p, xs, rfl, hasc, SqT.of g1, r _ H2 (fun H => SqT K H p xs) _ e2 (by
      have : (pairs (signs x) ds).length = xs.length := by unfold pairs signs; rw [List.length_map, List.length_zip, List.length_map, g2.length]; simp; omega
      rw [this]; exact walk_zipS hlx) (fun H3 e3 => SqT.of (e3 _ _ g1)) fun i H3 v H4 e3 yy => ?_⟩
    obtain ⟨T, c, y, rfl, hT, rfl, hc, hy⟩ := yy
    obtain ⟨d2, hd2, im2⟩ := (g2.mono e3).get hy
    refine ⟨Ex.new hT, .tuple [.str ⟨#[c]⟩, d2], ?_, .tup upd_same (.cons (.str _) (.cons (im2.mono (Ex.new hT)) .nil))⟩
    unfold pairs
    rw [List.getElem?_map]
    have hs : (signs x)[i]? = some (.str ⟨#[c]⟩) := by
      unfold signs
      rw [List.getElem?_map]
      have : x.cps.toList[i]? = some c := by simpa using hc
      rw [this]; rfl
    rw [zip_get hs hd2]; rfl
end Pd
set_option Elab.async false
set_option linter.all false
set_option maxRecDepth 100000
set_option maxHeartbeats 2000000
/-! Kw: calls with keywords; tuples and dicts of the text. -/
namespace Pd
open PySem PySem.Spec PyProof.Rows L2 Evl
/-- a def called with n values and keywords ks, in the parameters' order, its promise kept -/
structure CalK (P : Program) (w : World) (K : PySem.W.Frag) (mg : Str → Option Value) (base : Heap) (CX : CXT) (k : Nat) (x : Str) (ps : List Str) (n : Nat) (ks : List Str) (sp : Sp) : Prop where
  ex : ∃ (f : Addr) (fd : FuncData), mg x = some (.ref f) ∧ PySem.W.keepIn K (.ref f) = true ∧ KBn K fd ps n ks (fun us ws => us ++ ws) (fun vs zs => vs ++ zs) ∧ FnOk P w K mg base CX k f fd ps sp
structure SrcK (K : PySem.W.Frag) (mg : Str → Option Value) (x : Str) (st : Stmt) (ps : List Str) (n : Nat) (ks : List Str) : Prop where
  ex : ∃ (f : Addr) (fd : FuncData), mg x = some (.ref f) ∧ Fun K x x st f fd ∧ KBn K fd ps n ks (fun us ws => us ++ ws) (fun vs zs => vs ++ zs)
section
variable {P : Program} {w : World} {K : PySem.W.Frag} {mg : Str → Option Value} {base : Heap}
theorem SrcK.cal {x : Str} {st : Stmt} {N ps ks : List Str} {k n : Nat} {sp : Sp} (F : SrcK K mg x st ps n ks) (S : FnScope N ps (defScope st)) (len : ∀ vs H Q E, sp vs H Q E → vs.length = ps.length)
    (hbody : ∀ (f : Addr) (cdv : Value) (A : Around) (outer : List Env) (s : Shared) (H : Hp) (vs : List V) (Q : VK) (E : XK), Room k (A.deeper (envOfC x (defScope st) s.heap.objs.size f cdv)) → sp vs H Q E →
      ∃ t, PSs (cxOf CX0 P w K mg base N x (defScope st) f cdv A outer s H E).nox (defBody st) t ∧ t { nx := fun _ H' => Q .non H', rt := Q } (start N vs) H) : CalK P w K mg base CX0 (k + 1) x ps n ks sp := by
  obtain ⟨f, fd, hm, hF, hb⟩ := F.ex
  exact ⟨f, fd, hm, hF.kp, hb, hF.ok S len fun cdv A outer s H vs Q E => hbody f cdv A outer s H vs Q E⟩
theorem SrcK.calX {x : Str} {st : Stmt} {N ps ks : List Str} {k n : Nat} {sp : Sp} (F : SrcK K mg x st ps n ks) (S : FnScope N ps (defScope st)) (len : ∀ vs H Q E, sp vs H Q E → vs.length = ps.length)
    (hbody : ∀ (f : Addr) (cdv : Value) (A : Around) (outer : List Env) (s : Shared) (H : Hp) (vs : List V) (Q : VK) (E : XK), Room k (A.deeper (envOfC x (defScope st) s.heap.objs.size f cdv)) → sp vs H Q E →
      ∃ t, PSs (cxOf (L2.CX P w) P w K mg base N x (defScope st) f cdv A outer s H E) (defBody st) t ∧ t { nx := fun _ H' => Q .non H', rt := Q } (start N vs) H) : CalK P w K mg base (L2.CX P w) (k + 1) x ps n ks sp := by
  obtain ⟨f, fd, hm, hF, hb⟩ := F.ex
  exact ⟨f, fd, hm, hF.kp, hb, hF.okX S len fun cdv A outer s H vs Q E => hbody f cdv A outer s H vs Q E⟩
theorem kbn_of {fd : FuncData} {ps ks : List Str} {n : Nat} (h : ∀ us ws : List Value, us.length = n → ws.length = ks.length → bindArgs fd ⟨us, ks.zip ws⟩ = pure (ps.zip (us ++ ws))) : KBn K fd ps n ks (fun us ws => us ++ ws) (fun vs zs => vs ++ zs) :=
  ⟨fun s us ws _ h1 h2 => .of_eq (h us ws h1 h2), fun r1 r2 => r1.append r2⟩
end
section
variable {X : Cx} {CX : CXT} {k n : Nat} {ps ks : List Str} {sp : Sp} {x : Str} {p pos : Pos} {e : Expr} {es : List Expr} {kws : List Keyword} {t tk : TA}
theorem pe_calK {E : XK} (C : CalK X.prog X.w X.K X.mg X.base CX k x ps n ks sp) (hr : Room k X.A) (hg : Gl X x) (hx : Passes CX X E)
    (ha : PA X (e :: es) t) (hkw : PK X kws tk) (hall : (backToKw pos (keywordEach kws X.env)).all (·.1.isSome) = true := by rfl) (hks : (backToKw pos (keywordEach kws X.env)).filterMap (·.1) = ks := by rfl)
    (hdb : (x == ("__debug__" : Str)) = false := by decide) (he : starEach (e :: es) X.env = (false, eval e X.env) :: starEach es X.env := by rfl)
    (hpl : ((backTo pos (starEach (e :: es) X.env)).any (·.1) || (backToKw pos (keywordEach kws X.env)).any (·.1.isNone)) = false := by rfl) :
    PE X (.Call (.Name x p) (e :: es) kws pos) (tCallN n ks.length sp (fun vs zs => vs ++ zs) E t tk) := by
  obtain ⟨f, fd, hm, hk, hb, F⟩ := C.ex
  exact pe_callN F hr hg hm hk hb hx ha hkw hall hks hdb he hpl
def tCallNS (n m : Nat) (sp : Sp) (E : L2.St → XK) (t tk : TA) : TE := fun σ H Q => t σ H fun vs H1 => tk σ H1 fun zs H2 => vs.length = n ∧ zs.length = m ∧ sp (vs ++ zs) H2 Q (E σ)
theorem pe_calKS {W : WX} (C : CalK X.prog X.w X.K X.mg X.base (L2.CX X.prog X.w) k x ps n ks sp) (hr : Room k X.A) (hg : Gl X x) (tkk : Takes X W)
    (ha : PA X (e :: es) t) (hkw : PK X kws tk) (hall : (backToKw pos (keywordEach kws X.env)).all (·.1.isSome) = true := by rfl) (hks : (backToKw pos (keywordEach kws X.env)).filterMap (·.1) = ks := by rfl)
    (hdb : (x == ("__debug__" : Str)) = false := by decide) (he : starEach (e :: es) X.env = (false, eval e X.env) :: starEach es X.env := by rfl)
    (hpl : ((backTo pos (starEach (e :: es) X.env)).any (·.1) || (backToKw pos (keywordEach kws X.env)).any (·.1.isNone)) = false := by rfl) :
    PE X (.Call (.Name x p) (e :: es) kws pos) (tCallNS n ks.length sp (WE W) t tk) := by
  obtain ⟨f, fd, hm, hk, hb, F⟩ := C.ex
  refine ⟨fun pins s σ H Q I h => ?_⟩
  refine wpAny_Call_Name_kw (ld_glob I hg hm ?_ hdb)
  refine PySem.W.callWith_KW (h₀ := X.base) I.ok.mod.kin hk hall (thn (ha.run pos pins s σ H _ I h) fun us s1 ⟨vs, H1, I1, r, q⟩ => ?_) hpl he
  refine thn (hkw.run pos pins s1 σ H1 _ I1 q) fun ws s2 ⟨zs, H2, I2, rz, l1, l2, q2⟩ => ⟨I2.kIn, ?_⟩
  rw [hks]
  have r2 := hb.rel r rz
  refine wpAny_call (codeAny_mono (F.run X.A X.stack s2 H2 ⟨us, ks.zip ws⟩ (us ++ ws) (vs ++ zs) Q (WE W σ) hr I2.env0 (hb.to s2 us ws I2.kIn (r.length.symm.trans l1) (rz.length.symm.trans l2)) r2 q2) fun r s' hq => ?_)
  cases r with
  | error e => exact passAt tkk σ pins H2 s2 e s' I2 hq
  | ok fl =>
    cases fl with
    | ret u => exact I2.after hq
    | next => exact False.elim hq
    | brk => exact False.elim hq
    | cont => exact False.elim hq
end
section
variable {K : PySem.W.Frag} {σ : L2.St} {H H' : Hp} {ta tb te : TE} {d : PyData} {ds es : List PyData} {t c : Addr} {P : PyData → Prop}
theorem ed_callN {R : List PyData → PyData → Prop} {E : XK} {ta tk : TA} {n m : Nat} (h : EvDs ta σ H ds) (h2 : EvDs tk σ H es) (l1 : ds.length = n) (l2 : es.length = m) (hd : R (ds ++ es) d) : EvD (tCallN n m (SpQ R) (fun vs zs => vs ++ zs) E ta tk) σ H d := fun H1 e Q q =>
  h H1 e _ fun vs H2 e2 i2 => h2 H2 (e.trans e2) _ fun zs H3 e3 i3 => ⟨by rw [i2.length]; exact l1, by rw [i3.length]; exact l2, ds ++ es, d, (i2.mono e3).append i3, hd, fun v H4 e4 i4 => q v H4 ((e2.trans e3).trans e4) i4⟩
/-- x in a tuple of the text, texts all -/
theorem ed_inK {a : Str} {ss : List Str} {p : Addr} (ha : EvD ta σ H (.str a)) (hp : ∀ H1, SqT K H1 p (ss.map V.str)) : EvD (tOp (rIn K false) ta (tC (.ref p))) σ H (.bool (decide (a ∈ ss))) := fun H1 e Q q =>
  ha H1 e _ fun x H2 e2 ix => by
    cases ix.s
    refine ⟨p, _, rfl, .inr (hp H2), rfl, flat_strs ss, ?_⟩
    have h := q _ H2 e2 (.bl (decide (a ∈ ss)))
    show Q (.bl (inV (.str a) (ss.map V.str))) H2
    rw [inV_strs]; exact h
/-- what a dict of the text holds, by its keys -/
def rNotInKd (K : PySem.W.Frag) (p : Addr) : R2 := fun x y H Q => ∃ (z : Str) (r : Option Value), x = .str z ∧ y = .ref p ∧ PySem.W.nsIn K p z = some r ∧ Q (.bl (!r.isSome)) H
theorem k_notIn_kd {X : Cx} (hK : X.K = K) {p : Addr} {es : Array DictEntry} {n : Nat} (D : KDict X.K X.w p es n) : OpR X (compareOp .NotIn) (rNotInKd K p) := by subst hK; exact op_notIn_kd D
theorem k_ix_kd {X : Cx} (hK : X.K = K) {w : World} (hw : X.w = w) : IxR X (rIxD K w) := by subst hK; subst hw; exact ix_kdict
theorem ed_notInKd {a : Str} {p : Addr} {b : Bool} (ha : EvD ta σ H (.str a)) (hp : ∃ r : Option Value, PySem.W.nsIn K p a = some r ∧ r.isSome = b) : EvD (tOp (rNotInKd K p) ta (tC (.ref p))) σ H (.bool (!b)) := fun H1 e Q q =>
  ha H1 e _ fun x H2 e2 ix => by
    cases ix.s
    obtain ⟨r, h1, h2⟩ := hp
    exact ⟨a, r, rfl, rfl, h1, by rw [h2]; exact q _ H2 e2 (.bl _)⟩
theorem ed_ixKd {w : World} {a z : Str} {p : Addr} (ha : EvD ta σ H (.str a)) (hp : KDct K w p a (.str z)) : EvD (tOp (rIxD K w) (tC (.ref p)) ta) σ H (.str z) := fun H1 e Q q =>
  ha H1 e _ fun x H2 e2 ix => by
    cases ix.s
    exact ⟨p, a, .str z, rfl, rfl, hp, q _ H2 e2 (.str z)⟩
end
end Pd
set_option Elab.async false
set_option linter.all false
set_option maxRecDepth 100000
set_option maxHeartbeats 2000000
/-! Dk: dicts with text keys; lists that change, by data. -/
namespace Pd
open PySem PyProof.Rows L2 Evl
section
variable {K : PySem.W.Frag} {σ : L2.St} {H H' : Hp} {ta tb te tx tl to : TE} {u u2 : TT} {x y z v : V} {d d' e' : PyData} {ds es : List PyData} {D : Ends} {tz : TS}
theorem keyne {a b : Str} (h : decide (a = b) = false) : ¬ (Sum.inr a : Key) = Sum.inr b := fun e => of_decide_eq_false h (Sum.inr.inj e)
theorem ev_dget {i : Nat} {p : Addr} {k : Str} {kvs : List (Key × V)} (h : σ[i]? = some (some (.ref p))) (hd : H p = some (.dK kvs)) (hv : valV kvs (.inr k) = some v) : Ev (tDGet (tVar i) (tC (.str k))) σ H v := fun H1 e Q q =>
  ⟨.ref p, h, p, v, rfl, hv ▸ DGet.k (k := .inr k) (e _ _ hd), q H1 (Ex.refl H1)⟩
theorem ed_dget {i : Nat} {p : Addr} {k : Str} {kvs : List (Key × V)} (h : σ[i]? = some (some (.ref p))) (hd : H p = some (.dK kvs)) (hv : valV kvs (.inr k) = some v) (iv : Im H v d) : EvD (tDGet (tVar i) (tC (.str k))) σ H d := EvD.of_ev (ev_dget h hd hv) iv
theorem s_dputD {i : Nat} {p : Addr} {k : Str} {kvs : List (Key × V)} (h : σ[i]? = some (some (.ref p))) (hd : H p = some (.dK kvs)) (hl : kvs.length < 100000) (hv : EvD te σ H d) (kk : ∀ v H1, Ex H H1 → Im H1 v d → H1 p = some (.dK kvs) → D.nx σ (L2.upd H1 p (.dK (putK kvs (.inr k) v)))) : sDPut (tVar i) (tC (.str k)) te D σ H :=
  hv H (Ex.refl H) _ fun v H1 e iv => ⟨.ref p, h, p, _, rfl, DPut.k (k := .inr k) (e _ _ hd) (sz_lt hl), kk v H1 e iv (e _ _ hd)⟩
theorem s_dputN {i : Nat} {p : Addr} {k : Str} {kvs : List (Key × V)} (h : σ[i]? = some (some (.ref p))) (hd : H p = some (.dK kvs)) (hl : kvs.length < 100000) (hv : EvN te σ H ds) (kk : ∀ q xs H1, H q = none → Ex H H1 → H1 q = some (.lst xs) → Ims H1 xs ds → H1 p = some (.dK kvs) → D.nx σ (L2.upd H1 p (.dK (putK kvs (.inr k) (.ref q))))) : sDPut (tVar i) (tC (.str k)) te D σ H :=
  hv H (Ex.refl H) _ fun q xs H1 n e a b => ⟨.ref p, h, p, _, rfl, DPut.k (k := .inr k) (e _ _ hd) (sz_lt hl), kk q xs H1 n e a b (e _ _ hd)⟩
theorem q_dputD {i : Nat} {p : Addr} {k : Str} {kvs : List (Key × V)} (h : σ[i]? = some (some (.ref p))) (hd : H p = some (.dK kvs)) (hl : kvs.length < 100000) (hv : EvD te σ H d) (kk : ∀ v H1, Ex H H1 → Im H1 v d → H1 p = some (.dK kvs) → tz D σ (L2.upd H1 p (.dK (putK kvs (.inr k) v)))) : tSeq (sDPut (tVar i) (tC (.str k)) te) tz D σ H := s_dputD (D := { D with nx := tz D }) h hd hl hv kk
theorem tx_upd {p : Addr} {o : HO} (h : ∀ xs, H p ≠ some (.tup xs)) : Tx H (L2.upd H p o) := fun a xs ha => by
  by_cases c : a = p
  · subst c; exact absurd ha (h xs)
  · rw [upd_ne c]; exact ha
theorem tx_dk {p : Addr} {o : HO} {kvs : List (Key × V)} (h : H p = some (.dK kvs)) : Tx H (L2.upd H p o) := tx_upd fun xs z => by rw [h] at z; cases z
theorem ExM.updD {M : List Addr} {p : Addr} {o : HO} {kvs : List (Key × V)} (h : H p = some (.dK kvs)) (hm : p ∈ M) : ExM M H (L2.upd H p o) :=
  ⟨fun a u n ha => by rw [upd_ne (fun z => n (by rw [z]; exact hm))]; exact ha, tx_dk h⟩
/-- l.append(v), l known as a value -/
theorem s_appA {l : Addr} {xs : List V} (hl : H l = some (.lst xs)) (ha : Ev ta σ H (.ref l)) (h : EvD te σ H d) (hz : xs.length < 100000) (k : ∀ v H1, Ex H H1 → H1 l = some (.lst xs) → Im H1 v d → D.nx σ (L2.upd H1 l (.lst (xs ++ [v])))) :
    tDrop (tBM K "list" rAppend ta (tCons te tNil)) D σ H := ha H (Ex.refl H) _ fun H1 e1 =>
  ⟨Or.inl ⟨rfl, xs, sq_of (e1 l _ hl)⟩, h H1 e1 _ fun v H2 e2 iv => ⟨l, xs, v, rfl, rfl, e2 l _ (e1 l _ hl), sz_lt hz, k v H2 (e1.trans e2) (e2 l _ (e1 l _ hl)) iv⟩⟩
theorem q_appA {l : Addr} {xs : List V} (hl : H l = some (.lst xs)) (ha : Ev ta σ H (.ref l)) (h : EvD te σ H d) (hz : xs.length < 100000) (k : ∀ v H1, Ex H H1 → H1 l = some (.lst xs) → Im H1 v d → tz D σ (L2.upd H1 l (.lst (xs ++ [v])))) :
    tSeq (tDrop (tBM K "list" rAppend ta (tCons te tNil))) tz D σ H := s_appA (D := { D with nx := tz D }) hl ha h hz k
/-- l.pop() -/
theorem q_popA {l : Addr} {xs : List V} (hl : H l = some (.lst (xs ++ [x]))) (ha : Ev ta σ H (.ref l)) (k : ∀ H1, Ex H H1 → tz D σ (L2.upd H1 l (.lst xs))) : tSeq (tDrop (tBM0 K "list" rPop ta)) tz D σ H := ha H (Ex.refl H) _ fun H1 e1 =>
  ⟨Or.inl ⟨rfl, _, sq_of (e1 l _ hl)⟩, l, xs ++ [x], x, rfl, rfl, e1 _ _ hl, by simp, by
    have : (xs ++ [x]).dropLast = xs := by simp
    rw [this]; exact k H1 e1⟩
theorem ixN_last (n : Nat) : ixN (n + 1) (-1) = some n := by
  unfold ixN
  rw [if_neg (by decide), if_pos (by omega)]
  congr 1
  omega
/-- l[-1] = v -/
theorem q_setLast {l : Addr} {xs : List V} (hl : H l = some (.lst (xs ++ [x]))) (h : EvD te σ H d) (ho : Ev ta σ H (.ref l)) (k : ∀ v H1, Ex H H1 → H1 l = some (.lst (xs ++ [x])) → Im H1 v d → tz D σ (L2.upd H1 l (.lst (xs ++ [v])))) :
    tSeq (tAsg te (gSub ta (tUn (rU fun i => V.int (-i)) (tC (.int 1))) rSetL)) tz D σ H := h H (Ex.refl H) _ fun v H1 e1 iv => ho H1 e1 _ fun H2 e2 => ⟨1, rfl, by
    have h2 := (e1.trans e2) _ _ hl
    refine ⟨l, xs ++ [x], -1, xs.length, rfl, rfl, h2, ?_, ?_⟩
    · rw [List.length_append]; exact ixN_last _
    · have : (xs ++ [x]).set xs.length v = xs ++ [v] := by simp
      rw [this]
      exact k v H2 (e1.trans e2) h2 (iv.mono e2)⟩
end
end Pd
set_option Elab.async false
set_option linter.all false
set_option maxRecDepth 100000
set_option maxHeartbeats 2000000
/-! Wa: the plain layer. Immutable values are data, mutable ones are references into a logical heap; what a reading of HandS asks is said again over these (RE, RS ..). -/
namespace Wl
open PySem PySem.Spec PyProof.Rows L2 Evl Pd
theorem map_toNat_inj : ∀ {a b : List Char}, a.map Char.toNat = b.map Char.toNat → a = b
  | [], [], _ => rfl
  | [], _ :: _, h => by cases h
  | _ :: _, [], h => by cases h
  | x :: a, y :: b, h => by
    rw [List.map_cons, List.map_cons] at h
    obtain ⟨h1, h2⟩ := List.cons.inj h
    have hx : x = y := by
      apply Char.ext
      exact UInt32.toNat_inj.mp h1
    rw [hx, map_toNat_inj h2]
/-- texts that are written -/
@[simp] theorem ofString_inj {a b : String} : (Str.ofString a = Str.ofString b) = (a = b) := by
  apply propext
  refine ⟨fun h => ?_, fun h => by rw [h]⟩
  rw [Str.ofString_eq_byList] at h
  unfold Str.ofStringByList at h
  have h2 := congrArg (fun s : Str => s.cps.toList) h
  simp only [List.toList_toArray] at h2
  exact String.toList_inj.mp (map_toNat_inj h2)
@[simp] theorem ofString_beq {a b : String} : (Str.ofString a == Str.ofString b) = decide (a = b) := by
  by_cases h : a = b
  · subst h; simp
  · rw [decide_eq_false h]
    exact beq_eq_false_iff_ne.mpr (by rw [ne_eq, ofString_inj]; exact h)
/-- a reference -/
abbrev rf (a : Addr) : PyData := .dict [(.int ((a : Nat) : Int), .none)]
@[simp] theorem addr_inj {a b : Addr} : ((((a : Nat) : Int) = ((b : Nat) : Int)) = (a = b)) := by
  apply propext
  exact ⟨fun h => Int.ofNat.inj h, fun h => by rw [h]⟩
def asR : PyData → Option Addr
  | .dict [(.int i, .none)] => some i.toNat
  | _ => none
@[simp] theorem asR_rf (a : Addr) : asR (rf a) = some a := by simp [asR]
theorem asR_eq {d : PyData} {a : Addr} (h : asR d = some a) : ∃ i : Int, d = .dict [(.int i, .none)] ∧ i.toNat = a := by
  unfold asR at h
  split at h
  · exact ⟨_, rfl, Option.some.inj h⟩
  · cases h
/-- what stands at a reference -/
inductive LO where
  | lst (ds : List PyData)
  | dK (kvs : List (Key × PyData))
  | dT (kvs : List (List Key × PyData))
  | ins (C : Addr) (fs : List (Str × PyData))
abbrev Lh := Addr → Option LO
def up (h : Lh) (a : Addr) (o : LO) : Lh := fun b => if b = a then some o else h b
@[simp] theorem up_same {h : Lh} {a : Addr} {o : LO} : up h a o a = some o := by unfold up; rw [if_pos rfl]
@[simp] theorem up_up {h : Lh} {a : Addr} {o u : LO} : up (up h a o) a u = up h a u := by
  funext b; unfold up; split <;> rfl
theorem up_ne {h : Lh} {a b : Addr} {o : LO} (n : b ≠ a) : up h a o b = h b := by unfold up; rw [if_neg n]
/-- a tuple, a list of the text -/
def KT (K : PySem.W.Frag) (a : Addr) (xs : List V) : Prop := ∃ (o : Obj) (its : Array Value) (n : Nat), K.lookup a = some o ∧ o.cls = .type "tuple" ∧ o.data = .seq its n ∧ its.size ≤ sizeLine ∧ Vals xs its.toList
def Li0 : Unit := ()
section
variable (K : PySem.W.Frag)
def Tu (N : Addr → Prop) (H : Hp) (h : Lh) (a : Addr) (xs : List V) : Prop := (H a = some (.tup xs) ∧ h a = none ∧ ¬ N a) ∨ KT K a xs
def Li (N : Addr → Prop) (H : Hp) (h : Lh) (a : Addr) (xs : List V) : Prop := H a = some (.lst xs) ∧ h a = none ∧ ¬ N a
/-- the script: a list that is read -/
def Sc (N : Addr → Prop) (H : Hp) (h : Lh) (a : Addr) (xs : List V) : Prop := (Rd H a (.lst xs) ∧ h a = none ∧ ¬ N a) ∨ ∃ (o : Obj) (its : Array Value) (n : Nat), K.lookup a = some o ∧ o.cls = .type "list" ∧ o.dict = none ∧ o.data = .seq its n ∧ its.size ≤ sizeLine ∧ Vals xs its.toList
mutual
/-- v is d -/
inductive Rl (N : Addr → Prop) (H : Hp) (h : Lh) : V → PyData → Prop
  | non : Rl N H h .non .none
  | bl (b : Bool) : Rl N H h (.bl b) (.bool b)
  | int (i : Int) : Rl N H h (.int i) (.int i)
  | str (x : Str) : Rl N H h (.str x) (.str x)
  | lst {a : Addr} {xs : List V} {ds : List PyData} : Li N H h a xs → Rls N H h xs ds → Rl N H h (.ref a) (.list ds)
  | tup {a : Addr} {xs : List V} {ds : List PyData} : Tu K N H h a xs → Rls N H h xs ds → Rl N H h (.ref a) (.tuple ds)
  | rf (a : Addr) : Rl N H h (.ref a) (.dict [(.int ((a : Nat) : Int), .none)])
  | scr {a : Addr} (ns : List Int) : Sc K N H h a (ns.map V.int) → Rl N H h (.ref a) (.dict [(.none, .tuple (ns.map PyData.int))])
inductive Rls (N : Addr → Prop) (H : Hp) (h : Lh) : List V → List PyData → Prop
  | nil : Rls N H h [] []
  | cons {v : V} {vs : List V} {d : PyData} {ds : List PyData} : Rl N H h v d → Rls N H h vs ds → Rls N H h (v :: vs) (d :: ds)
end
end
/-- from one state to a later one: what is no mutable object stays -/
structure Tr (H : Hp) (h : Lh) (H' : Hp) (h' : Lh) : Prop where
  k : ∀ a o, H a = some o → h a = none → H' a = some o ∧ h' a = none
  n : ∀ a, H' a = none → H a = none
theorem Tr.refl (H : Hp) (h : Lh) : Tr H h H h := ⟨fun _ _ a b => ⟨a, b⟩, fun _ a => a⟩
theorem Tr.rd {H H' : Hp} {h h' : Lh} {a : Addr} {u : HO} (t : Tr H h H' h') (r : Rd H a u) (e : h a = none) : Rd H' a u := by
  rcases r with r | ⟨o, r⟩
  · exact .inl (t.k _ _ r e).1
  · exact .inr ⟨o, (t.k _ _ r e).1⟩
theorem Rd.some {H : Hp} {a : Addr} {u : HO} (r : Rd H a u) : ∃ o, H a = some o := by
  rcases r with r | ⟨o, r⟩
  · exact ⟨_, r⟩
  · exact ⟨_, r⟩
theorem Tr.trans {H H1 H2 : Hp} {h h1 h2 : Lh} (x : Tr H h H1 h1) (y : Tr H1 h1 H2 h2) : Tr H h H2 h2 := ⟨fun a o p q => y.k a o (x.k a o p q).1 (x.k a o p q).2, fun a e => x.n a (y.n a e)⟩
theorem upd_none {H : Hp} {p a : Addr} {o : HO} (e : L2.upd H p o a = none) : H a = none := by
  unfold L2.upd at e
  split at e
  · cases e
  · exact e
theorem Tr.new {H : Hp} {h : Lh} {p : Addr} {o : HO} (hp : H p = none) : Tr H h (L2.upd H p o) h := ⟨fun a u e q => ⟨by rw [upd_ne (fun z => by rw [z, hp] at e; cases e)]; exact e, q⟩, fun a e => upd_none e⟩
theorem Tr.ex {H H' : Hp} {h : Lh} (e : Ex H H') : Tr H h H' h := ⟨fun a o p q => ⟨e a o p, q⟩, fun a q => by
  cases z : H a with
  | none => rfl
  | some o => rw [e a o z] at q; cases q⟩
section
variable {K : PySem.W.Frag} {N N' : Addr → Prop} {H H' H1 : Hp} {h h' h1 : Lh}
mutual
theorem Rl.tr (t : Tr H h H' h') : ∀ {d : PyData} {v : V}, Rl K N H h v d → Rl K N H' h' v d
  | .none, _, r => by cases r; exact .non
  | .bool _, _, r => by cases r; exact .bl _
  | .int _, _, r => by cases r; exact .int _
  | .str _, _, r => by cases r; exact .str _
  | .list ds, _, r => by
    cases r with
    | lst h1 h2 =>
      obtain ⟨a, b, c⟩ := h1
      exact .lst ⟨(t.k _ _ a b).1, (t.k _ _ a b).2, c⟩ (Rls.tr t h2)
  | .tuple ds, _, r => by
    cases r with
    | tup h1 h2 =>
      refine .tup ?_ (Rls.tr t h2)
      rcases h1 with ⟨a, b, c⟩ | k
      · exact .inl ⟨(t.k _ _ a b).1, (t.k _ _ a b).2, c⟩
      · exact .inr k
  | .dict _, _, r => by
    cases r with
    | rf => exact .rf _
    | scr ns c =>
      refine .scr ns ?_
      rcases c with ⟨a, b, c⟩ | k
      · obtain ⟨o, e⟩ := Rd.some a
        exact .inl ⟨t.rd a b, (t.k _ _ e b).2, c⟩
      · exact .inr k
theorem Rls.tr (t : Tr H h H' h') : ∀ {ds : List PyData} {vs : List V}, Rls K N H h vs ds → Rls K N H' h' vs ds
  | [], _, r => by cases r; exact .nil
  | d :: ds, _, r => by cases r with | cons a b => exact .cons (Rl.tr t a) (Rls.tr t b)
end
mutual
/-- fewer things are hidden, or more that are new -/
theorem Rl.hid (t : ∀ a, N' a → N a ∨ H a = none) : ∀ {d : PyData} {v : V}, Rl K N H h v d → Rl K N' H h v d
  | .none, _, r => by cases r; exact .non
  | .bool _, _, r => by cases r; exact .bl _
  | .int _, _, r => by cases r; exact .int _
  | .str _, _, r => by cases r; exact .str _
  | .list ds, _, r => by
    cases r with
    | lst h1 h2 =>
      obtain ⟨a, b, c⟩ := h1
      exact .lst ⟨a, b, fun z => (t _ z).elim c fun e => by rw [e] at a; cases a⟩ (Rls.hid t h2)
  | .tuple ds, _, r => by
    cases r with
    | tup h1 h2 =>
      refine .tup ?_ (Rls.hid t h2)
      rcases h1 with ⟨a, b, c⟩ | k
      · exact .inl ⟨a, b, fun z => (t _ z).elim c fun e => by rw [e] at a; cases a⟩
      · exact .inr k
  | .dict _, _, r => by
    cases r with
    | rf => exact .rf _
    | scr ns c =>
      refine .scr ns ?_
      rcases c with ⟨a, b, c⟩ | k
      · obtain ⟨o, e⟩ := Rd.some a
        exact .inl ⟨a, b, fun z => (t _ z).elim c fun q => by rw [q] at e; cases e⟩
      · exact .inr k
theorem Rls.hid (t : ∀ a, N' a → N a ∨ H a = none) : ∀ {ds : List PyData} {vs : List V}, Rls K N H h vs ds → Rls K N' H h vs ds
  | [], _, r => by cases r; exact .nil
  | d :: ds, _, r => by cases r with | cons a b => exact .cons (Rl.hid t a) (Rls.hid t b)
end
mutual
/-- a step over what is not hidden: at a hidden place anything may be written -/
theorem Rl.trN (t : ∀ a o, H a = some o → h a = none → ¬ N a → H' a = some o ∧ h' a = none ∧ ¬ N' a) : ∀ {d : PyData} {v : V}, Rl K N H h v d → Rl K N' H' h' v d
  | .none, _, r => by cases r; exact .non
  | .bool _, _, r => by cases r; exact .bl _
  | .int _, _, r => by cases r; exact .int _
  | .str _, _, r => by cases r; exact .str _
  | .list ds, _, r => by
    cases r with
    | lst h1 h2 =>
      obtain ⟨a, b, c⟩ := h1
      exact .lst (t _ _ a b c) (Rls.trN t h2)
  | .tuple ds, _, r => by
    cases r with
    | tup h1 h2 =>
      refine .tup ?_ (Rls.trN t h2)
      rcases h1 with ⟨a, b, c⟩ | k
      · exact .inl (t _ _ a b c)
      · exact .inr k
  | .dict _, _, r => by
    cases r with
    | rf => exact .rf _
    | scr ns c =>
      refine .scr ns ?_
      rcases c with ⟨a, b, c⟩ | k
      · refine .inl ?_
        rcases a with a | ⟨o, a⟩
        · obtain ⟨q1, q2, q3⟩ := t _ _ a b c
          exact ⟨.inl q1, q2, q3⟩
        · obtain ⟨q1, q2, q3⟩ := t _ _ a b c
          exact ⟨.inr ⟨o, q1⟩, q2, q3⟩
      · exact .inr k
theorem Rls.trN (t : ∀ a o, H a = some o → h a = none → ¬ N a → H' a = some o ∧ h' a = none ∧ ¬ N' a) : ∀ {ds : List PyData} {vs : List V}, Rls K N H h vs ds → Rls K N' H' h' vs ds
  | [], _, r => by cases r; exact .nil
  | d :: ds, _, r => by cases r with | cons a b => exact .cons (Rl.trN t a) (Rls.trN t b)
end
theorem Rl.s {v : V} {x : Str} (r : Rl K N H h v (.str x)) : v = .str x := by cases r; rfl
theorem Rl.i {v : V} {x : Int} (r : Rl K N H h v (.int x)) : v = .int x := by cases r; rfl
theorem Rl.b {v : V} {x : Bool} (r : Rl K N H h v (.bool x)) : v = .bl x := by cases r; rfl
theorem Rl.n {v : V} (r : Rl K N H h v .none) : v = .non := by cases r; rfl
theorem Rl.r {v : V} {d : PyData} {a : Addr} (r : Rl K N H h v d) (e : asR d = some a) : v = .ref a := by
  obtain ⟨i, rfl, rfl⟩ := asR_eq e
  cases r
  simp
theorem Tu.sq {a : Addr} {xs : List V} (t : Tu K N H h a xs) : SqT K H a xs := by
  rcases t with t | t
  · exact SqT.of t.1
  · exact .inr t
theorem Li.sq {a : Addr} {xs : List V} (t : Li N H h a xs) : SqL K H a xs := SqL.of t.1
theorem Rl.t {v : V} {ds : List PyData} (r : Rl K N H h v (.tuple ds)) : ∃ a xs, v = .ref a ∧ Tu K N H h a xs ∧ Rls K N H h xs ds := by cases r with | tup a b => exact ⟨_, _, rfl, a, b⟩
theorem Rl.l {v : V} {ds : List PyData} (r : Rl K N H h v (.list ds)) : ∃ a xs, v = .ref a ∧ Li N H h a xs ∧ Rls K N H h xs ds := by cases r with | lst a b => exact ⟨_, _, rfl, a, b⟩
theorem Rls.length : ∀ {ds : List PyData} {vs : List V}, Rls K N H h vs ds → vs.length = ds.length
  | [], _, r => by cases r; rfl
  | d :: ds, _, r => by cases r with | cons a b => simp [Rls.length b]
theorem Rls.get : ∀ {ds : List PyData} {vs : List V} {i : Nat} {v : V}, Rls K N H h vs ds → vs[i]? = some v → ∃ d, ds[i]? = some d ∧ Rl K N H h v d
  | [], _, _, _, r, e => by cases r; simp at e
  | d :: ds, _, 0, v, r, e => by cases r with | cons a b => simp at e; subst e; exact ⟨d, rfl, a⟩
  | d :: ds, _, i + 1, v, r, e => by cases r with | cons a b => exact Rls.get (i := i) b (by simpa using e)
theorem Rls.getD : ∀ {ds : List PyData} {vs : List V} {i : Nat} {d : PyData}, Rls K N H h vs ds → ds[i]? = some d → ∃ v, vs[i]? = some v ∧ Rl K N H h v d
  | [], _, _, _, r, e => by simp at e
  | d :: ds, _, 0, v, r, e => by cases r with | cons a b => simp at e; subst e; exact ⟨_, rfl, a⟩
  | d :: ds, _, i + 1, v, r, e => by cases r with | cons a b => exact Rls.getD (i := i) b (by simpa using e)
theorem Rls.append : ∀ {ds es : List PyData} {vs ws : List V}, Rls K N H h vs ds → Rls K N H h ws es → Rls K N H h (vs ++ ws) (ds ++ es)
  | [], _, _, _, r, k => by cases r; exact k
  | d :: ds, _, _, _, r, k => by cases r with | cons a b => exact .cons a (Rls.append b k)
theorem Rls.take : ∀ {ds : List PyData} {vs : List V} (n : Nat), Rls K N H h vs ds → Rls K N H h (vs.take n) (ds.take n)
  | _, _, 0, _ => .nil
  | [], _, n + 1, r => by cases r; exact .nil
  | d :: ds, _, n + 1, r => by cases r with | cons a b => exact .cons a (Rls.take n b)
theorem Rls.drop : ∀ {ds : List PyData} {vs : List V} (n : Nat), Rls K N H h vs ds → Rls K N H h (vs.drop n) (ds.drop n)
  | _, _, 0, r => r
  | [], _, n + 1, r => by cases r; exact .nil
  | d :: ds, _, n + 1, r => by cases r with | cons a b => exact Rls.drop n b
theorem Rls.set {v : V} {d : PyData} (r : Rl K N H h v d) : ∀ {ds : List PyData} {vs : List V} (i : Nat), Rls K N H h vs ds → Rls K N H h (vs.set i v) (ds.set i d)
  | [], _, _, k => by cases k; exact .nil
  | d :: ds, _, 0, k => by cases k with | cons a b => exact .cons r b
  | d :: ds, _, i + 1, k => by cases k with | cons a b => exact .cons a (Rls.set r i b)
theorem Rls.one {vs : List V} {d : PyData} (r : Rls K N H h vs [d]) : ∃ v, vs = [v] ∧ Rl K N H h v d := by
  cases r with | cons a b => cases b; exact ⟨_, rfl, a⟩
theorem Rls.two {vs : List V} {d e : PyData} (r : Rls K N H h vs [d, e]) : ∃ v w, vs = [v, w] ∧ Rl K N H h v d ∧ Rl K N H h w e := by
  cases r with | cons a b => obtain ⟨w, rfl, c⟩ := b.one; exact ⟨_, _, rfl, a, c⟩
theorem Rls.strs : ∀ {ss : List Str} {vs : List V}, Rls K N H h vs (ss.map PyData.str) → vs = ss.map V.str
  | [], _, r => by cases r; rfl
  | s :: ss, _, r => by cases r with | cons a b => rw [a.s, Rls.strs b]; rfl
theorem Rls.bls : ∀ {ss : List Bool} {vs : List V}, Rls K N H h vs (ss.map PyData.bool) → vs = ss.map V.bl
  | [], _, r => by cases r; rfl
  | s :: ss, _, r => by cases r with | cons a b => rw [a.b, Rls.bls b]; rfl
mutual
/-- no reference within -/
def clean : PyData → Bool
  | .dict _ => false
  | .list ds => cleans ds
  | .tuple ds => cleans ds
  | _ => true
def cleans : List PyData → Bool
  | [] => true
  | d :: ds => clean d && cleans ds
end
mutual
theorem Rl.dp : ∀ {d : PyData} {v : V}, clean d = true → Rl K N H h v d → Dp K H v d
  | .none, _, _, r => by cases r; exact .non
  | .bool _, _, _, r => by cases r; exact .bl _
  | .int _, _, _, r => by cases r; exact .int _
  | .str _, _, _, r => by cases r; exact .str _
  | .list ds, _, s, r => by cases r with | lst a b => exact .lst a.sq (Rls.dp s b)
  | .tuple ds, _, s, r => by cases r with | tup a b => exact .tup a.sq (Rls.dp s b)
  | .dict _, _, s, r => by cases s
theorem Rls.dp : ∀ {ds : List PyData} {vs : List V}, cleans ds = true → Rls K N H h vs ds → DpAll K H vs ds
  | [], _, _, r => by cases r; exact .nil
  | d :: ds, _, s, r => by
    cases r with
    | cons a b =>
      have s' : clean d = true ∧ cleans ds = true := Bool.and_eq_true_iff.mp s
      exact .cons (Rl.dp s'.1 a) (Rls.dp s'.2 b)
end
end
/-! ### the heap -/
section
variable (K : PySem.W.Frag)
inductive Ok1 (N : Addr → Prop) (H : Hp) (h : Lh) : HO → LO → Prop
  | lst {xs : List V} {ds : List PyData} : Rls K N H h xs ds → Ok1 N H h (.lst xs) (.lst ds)
  | dK {xs : List (Key × V)} {ds : List (Key × PyData)} : Paired (fun (p : Key × V) (q : Key × PyData) => p.1 = q.1 ∧ Rl K N H h p.2 q.2) xs ds → Ok1 N H h (.dK xs) (.dK ds)
  | dT {xs : List (List Key × V)} {ds : List (List Key × PyData)} : Paired (fun (p : List Key × V) (q : List Key × PyData) => p.1 = q.1 ∧ Rl K N H h p.2 q.2) xs ds → Ok1 N H h (.dT xs) (.dT ds)
  | ins {C dx : Addr} {xs : List (Str × V)} {ds : List (Str × PyData)} : Paired (fun (p : Str × V) (q : Str × PyData) => p.1 = q.1 ∧ Rl K N H h p.2 q.2) xs ds → Ok1 N H h (.ins C dx xs) (.ins C ds)
structure Sim (N : Addr → Prop) (H : Hp) (h : Lh) : Prop where
  at_ : ∀ a o, h a = some o → ¬ N a ∧ ∃ u, H a = some u ∧ Ok1 K N H h u o
  hid : ∀ a, N a → H a ≠ none
end
theorem Paired.mono2 {α β : Type} {r s : α → β → Prop} (f : ∀ a b, r a b → s a b) : ∀ {xs : List α} {ys : List β}, Paired r xs ys → Paired s xs ys
  | _, _, .nil => .nil
  | _, _, .cons a b => .cons (f _ _ a) (Paired.mono2 f b)
section
variable {K : PySem.W.Frag} {N N' : Addr → Prop} {H H' H1 : Hp} {h h' h1 : Lh} {u : HO} {o : LO}
theorem Ok1.mono (f : ∀ v d, Rl K N H h v d → Rl K N' H' h' v d) (g : ∀ v d, Rls K N H h v d → Rls K N' H' h' v d) (k : Ok1 K N H h u o) : Ok1 K N' H' h' u o := by
  cases k with
  | lst a => exact .lst (g _ _ a)
  | dK a => exact .dK (Paired.mono2 (fun p q z => ⟨z.1, f _ _ z.2⟩) a)
  | dT a => exact .dT (Paired.mono2 (fun p q z => ⟨z.1, f _ _ z.2⟩) a)
  | ins a => exact .ins (Paired.mono2 (fun p q z => ⟨z.1, f _ _ z.2⟩) a)
theorem Ok1.tr (t : Tr H h H' h') (k : Ok1 K N H h u o) : Ok1 K N H' h' u o := k.mono (fun _ _ => Rl.tr t) (fun _ _ => Rls.tr t)
theorem Sim.nn {a : Addr} (S : Sim K N H h) (e : H a = none) : ¬ N a := fun z => S.hid a z e
theorem Sim.hn {a : Addr} (S : Sim K N H h) (e : H a = none) : h a = none := by
  cases q : h a with
  | none => rfl
  | some o =>
    obtain ⟨_, u, z, _⟩ := S.at_ a o q
    rw [e] at z; cases z
/-- a real object more -/
theorem Sim.ex (S : Sim K N H h) (e : Ex H H') : Sim K N H' h :=
  ⟨fun a o q => by
    obtain ⟨n, u, z, k⟩ := S.at_ a o q
    exact ⟨n, u, e a u z, k.tr (Tr.ex e)⟩, fun a z q => by
    cases w : H a with
    | none => exact S.hid a z w
    | some o => rw [e a o w] at q; cases q⟩
theorem Sim.new {p : Addr} {v : HO} (S : Sim K N H h) (hp : H p = none) : Sim K N (L2.upd H p v) h := S.ex (Ex.new hp)
/-- a mutable object more, or another content of one -/
theorem Tr.put {p : Addr} {v : HO} {l : LO} (hp : H p = none ∨ h p ≠ none) : Tr H h (L2.upd H p v) (up h p l) := ⟨fun a u e q => by
  have n : a ≠ p := fun z => by
    subst z
    rcases hp with hp | hp
    · rw [hp] at e; cases e
    · exact hp q
  exact ⟨by rw [upd_ne n]; exact e, by rw [up_ne n]; exact q⟩, fun a e => upd_none e⟩
theorem Sim.put {p : Addr} {v : HO} {l : LO} (S : Sim K N H h) (hp : H p = none ∨ h p ≠ none) (k : Ok1 K N H h v l) : Sim K N (L2.upd H p v) (up h p l) := by
  have t : Tr H h (L2.upd H p v) (up h p l) := Tr.put hp
  refine ⟨fun a o q => ?_, fun a z => ?_⟩
  · by_cases c : a = p
    · subst c
      rw [up_same] at q
      cases q
      refine ⟨?_, v, upd_same, k.tr t⟩
      rcases hp with hp | hp
      · exact S.nn hp
      · cases e : h a with
        | none => exact absurd e hp
        | some o => exact (S.at_ a o e).1
    · rw [up_ne c] at q
      obtain ⟨n, u, e, k⟩ := S.at_ a o q
      exact ⟨n, u, by rw [upd_ne c]; exact e, k.tr t⟩
  · by_cases c : a = p
    · subst c; rw [upd_same]; intro z; cases z
    · rw [upd_ne c]; exact S.hid a z
/-- some mutable objects are forgotten -/
theorem Sim.drop (S : Sim K N H h) (f : ∀ a o, h' a = some o → h a = some o) : Sim K N H h' := by
  have t : Tr H h H h' := ⟨fun a o e q => ⟨e, by
    cases z : h' a with
    | none => rfl
    | some o => rw [f a o z] at q; cases q⟩, fun _ e => e⟩
  exact ⟨fun a o q => by
    obtain ⟨n, u, e, k⟩ := S.at_ a o (f a o q)
    exact ⟨n, u, e, k.tr t⟩, S.hid⟩
theorem Tr.drop (f : ∀ a o, h' a = some o → h a = some o) : Tr H h H h' := ⟨fun a o e q => ⟨e, by
  cases z : h' a with
  | none => rfl
  | some o => rw [f a o z] at q; cases q⟩, fun _ e => e⟩
end
/-! ### slots -/
abbrev Ev' := List (Option PyData)
def En (K : PySem.W.Frag) (N : Addr → Prop) (H : Hp) (h : Lh) (σ : L2.St) (ρ : Ev') : Prop := σ.length = ρ.length ∧ ∀ (i : Nat) (d : PyData), ρ[i]? = some (some d) → ∃ v, σ[i]? = some (some v) ∧ Rl K N H h v d
section
variable {K : PySem.W.Frag} {N N' : Addr → Prop} {H H' H1 : Hp} {h h' h1 : Lh} {σ : L2.St} {ρ : Ev'}
theorem En.tr (t : Tr H h H' h') (e : En K N H h σ ρ) : En K N H' h' σ ρ := ⟨e.1, fun i d q => by
  obtain ⟨v, a, b⟩ := e.2 i d q
  exact ⟨v, a, b.tr t⟩⟩
theorem En.mono (f : ∀ v d, Rl K N H h v d → Rl K N' H' h' v d) (e : En K N H h σ ρ) : En K N' H' h' σ ρ := ⟨e.1, fun i d q => by
  obtain ⟨v, a, b⟩ := e.2 i d q
  exact ⟨v, a, f _ _ b⟩⟩
theorem En.set {v : V} {d : PyData} (e : En K N H h σ ρ) (i : Nat) (r : Rl K N H h v d) : En K N H h (σ.set i (some v)) (ρ.set i (some d)) := ⟨by rw [List.length_set, List.length_set]; exact e.1, fun j c q => by
  by_cases z : i = j
  · subst z
    have hl : i < ρ.length := by
      have := List.getElem?_eq_some_iff.mp q
      obtain ⟨w, _⟩ := this
      rw [List.length_set] at w; exact w
    rw [List.getElem?_set_self hl] at q
    cases q
    exact ⟨v, by rw [List.getElem?_set_self (by rw [e.1]; exact hl)], r⟩
  · rw [List.getElem?_set_ne z] at q
    rw [List.getElem?_set_ne z]
    exact e.2 j c q⟩
theorem En.non (e : En K N H h σ ρ) (i : Nat) : En K N H h (σ.set i none) (ρ.set i none) := ⟨by rw [List.length_set, List.length_set]; exact e.1, fun j c q => by
  by_cases z : i = j
  · subst z
    have hl : i < ρ.length := by
      have := List.getElem?_eq_some_iff.mp q
      obtain ⟨w, _⟩ := this
      rw [List.length_set] at w; exact w
    rw [List.getElem?_set_self hl] at q
    cases q
  · rw [List.getElem?_set_ne z] at q
    rw [List.getElem?_set_ne z]
    exact e.2 j c q⟩
@[simp] def wipeD (ρ : Ev') : List Nat → Ev'
  | [] => ρ
  | v :: vs => (wipeD ρ vs).set v none
theorem En.wipe (e : En K N H h σ ρ) : ∀ vs, En K N H h (wipe σ vs) (wipeD ρ vs)
  | [] => e
  | v :: vs => (En.wipe e vs).non v
@[simp] def startD (NM : List Str) (ds : List PyData) : Ev' := ds.map some ++ List.replicate (NM.length - ds.length) none
theorem En.start {NM : List Str} {vs : List V} {ds : List PyData} (r : Rls K N H h vs ds) : En K N H h (L2.start NM vs) (startD NM ds) := by
  unfold L2.start startD
  refine ⟨by simp [r.length], fun i d q => ?_⟩
  rw [List.getElem?_append] at q
  split at q
  · rename_i hl
    rw [List.length_map] at hl
    rw [List.getElem?_map] at q
    obtain ⟨d', hd⟩ : ∃ d', ds[i]? = some d' := ⟨ds[i], by simp [hl]⟩
    rw [hd] at q
    cases q
    obtain ⟨v, hv, iv⟩ := r.getD hd
    refine ⟨v, ?_, iv⟩
    rw [List.getElem?_append_left (by rw [List.length_map, r.length]; exact hl), List.getElem?_map, hv]; rfl
  · exfalso
    rw [List.getElem?_replicate] at q
    by_cases z : i - (ds.map some).length < NM.length - ds.length
    · rw [if_pos z] at q; cases q
    · rw [if_neg z] at q; cases q
end
end Wl
set_option Elab.async false
set_option linter.all false
set_option maxRecDepth 100000
set_option maxHeartbeats 2000000
/-! Wb: what expressions ask, over data and references. -/
namespace Wl
open PySem PySem.Spec PyProof.Rows L2 Evl Pd
abbrev Wv := PyData → Lh → Prop
abbrev WE := Ev' → Lh → Wv → Prop
abbrev WA := Ev' → Lh → (List PyData → Lh → Prop) → Prop
abbrev WT := Ev' → Lh → (Bool → Lh → Prop) → Prop
abbrev WO := Ev' → Lh → (Option Int → Lh → Prop) → Prop
/-- what exceptions go on to: of the real state, of the plain one -/
structure XP where
  E : L2.St → XK
  X : Ev' → Addr → List (Str × PyData) → Lh → Prop
/-- an exception's own dict -/
def XRel (K : PySem.W.Frag) (N : Addr → Prop) (H : Hp) (h : Lh) (d : Option Addr) (fs : List (Str × PyData)) : Prop := match d with
  | none => fs = []
  | some dd => ∃ xs, H dd = some (.xd xs) ∧ Paired (fun (p : Str × V) (q : Str × PyData) => p.1 = q.1 ∧ Rl K N H h p.2 q.2) xs fs
def KoX (K : PySem.W.Frag) (XX : XP) (N : Addr → Prop) (H : Hp) (h : Lh) : Prop := ∀ σ ρ C d fs H' h', Tr H h H' h' → Sim K N H' h' → En K N H' h' σ ρ → XRel K N H' h' d fs → XX.X ρ C fs h' → XX.E σ (.ref C) d H'
structure Sx (K : PySem.W.Frag) (XX : XP) (N : Addr → Prop) (H : Hp) (h : Lh) : Prop extends Sim K N H h where
  x : KoX K XX N H h
instance {K : PySem.W.Frag} {XX : XP} {N : Addr → Prop} {H : Hp} {h : Lh} : CoeOut (Sx K XX N H h) (Sim K N H h) := ⟨Sx.toSim⟩
section
variable {K : PySem.W.Frag} {XX : XP} {N N' : Addr → Prop} {H H' : Hp} {h h' : Lh} {u : HO} {o : LO}
theorem KoX.tr (t : Tr H h H' h') (k : KoX K XX N H h) : KoX K XX N H' h' := fun σ ρ C d fs H2 h2 t2 => k σ ρ C d fs H2 h2 (t.trans t2)
theorem XRel.mono (f : ∀ v d, Rl K N H h v d → Rl K N' H h v d) {d : Option Addr} {fs : List (Str × PyData)} (x : XRel K N H h d fs) : XRel K N' H h d fs := by
  cases d with
  | none => exact x
  | some dd =>
    obtain ⟨xs, e, p⟩ := x
    exact ⟨xs, e, Paired.mono2 (fun a b z => ⟨z.1, f _ _ z.2⟩) p⟩
theorem Sim.less (n : ∀ a, N a → N' a) (S : Sim K N' H h) : Sim K N H h := by
  have f : ∀ a, N a → N' a ∨ H a = none := fun a z => .inl (n a z)
  exact ⟨fun a o q => by
    obtain ⟨n', u', e', k'⟩ := S.at_ a o q
    exact ⟨fun z => n' (n a z), u', e', k'.mono (fun v d => Rl.hid f) (fun v d => Rls.hid f)⟩, fun a z => S.hid a (n a z)⟩
/-- more is hidden -/
theorem KoX.hid (n : ∀ a, N a → N' a) (k : KoX K XX N H h) : KoX K XX N' H h := fun σ ρ C d fs H2 h2 t2 S2 E2 x2 p2 => by
  have f : ∀ a, N a → N' a ∨ H2 a = none := fun a z => .inl (n a z)
  exact k σ ρ C d fs H2 h2 t2 (S2.less n) (E2.mono fun v d => Rl.hid f) (x2.mono fun v d => Rl.hid f) p2
theorem Sx.to (S : Sx K XX N H h) (t : Tr H h H' h') (S' : Sim K N H' h') : Sx K XX N H' h' := ⟨S', S.x.tr t⟩
theorem Sx.ex (S : Sx K XX N H h) (e : Ex H H') : Sx K XX N H' h := S.to (Tr.ex e) (S.toSim.ex e)
theorem Sx.new {p : Addr} {v : HO} (S : Sx K XX N H h) (hp : H p = none) : Sx K XX N (L2.upd H p v) h := S.to (Tr.new hp) (S.toSim.new hp)
theorem Sx.put {p : Addr} {v : HO} {l : LO} (S : Sx K XX N H h) (hp : H p = none ∨ h p ≠ none) (k : Ok1 K N H h v l) : Sx K XX N (L2.upd H p v) (up h p l) := S.to (Tr.put hp) (S.toSim.put hp k)
theorem Sx.drop (S : Sx K XX N H h) (f : ∀ a o, h' a = some o → h a = some o) : Sx K XX N H h' := S.to (Tr.drop f) (S.toSim.drop f)
end
section
variable (K : PySem.W.Frag) (XX : XP) (N : Addr → Prop) (H : Hp) (h : Lh)
def Ko (P : Wv) (Q : VK) : Prop := ∀ v d H' h', Tr H h H' h' → Sx K XX N H' h' → Rl K N H' h' v d → P d h' → Q v H'
def KoA (P : List PyData → Lh → Prop) (Q : List V → Hp → Prop) : Prop := ∀ vs ds H' h', Tr H h H' h' → Sx K XX N H' h' → Rls K N H' h' vs ds → P ds h' → Q vs H'
def KoT (P : Bool → Lh → Prop) (Q : Bool → Hp → Prop) : Prop := ∀ b H' h', Tr H h H' h' → Sx K XX N H' h' → P b h' → Q b H'
def KoO (P : Option Int → Lh → Prop) (Q : Option Int → Hp → Prop) : Prop := ∀ b H' h', Tr H h H' h' → Sx K XX N H' h' → P b h' → Q b H'
/-- a new list -/
def KoN (P : List PyData → Lh → Prop) (Q : VK) : Prop := ∀ p xs ds H' h', H p = none → Tr H h H' h' → Sx K XX (fun a => N a ∨ a = p) H' h' → H' p = some (.lst xs) → Rls K (fun a => N a ∨ a = p) H' h' xs ds → P ds h' → Q (.ref p) H'
end
@[simp] theorem clean_none : Wl.clean .none = true := by simp [Wl.clean]
@[simp] theorem clean_int {i : Int} : Wl.clean (.int i) = true := by simp [Wl.clean]
@[simp] theorem clean_bool {i : Bool} : Wl.clean (.bool i) = true := by simp [Wl.clean]
@[simp] theorem clean_str {i : Str} : Wl.clean (.str i) = true := by simp [Wl.clean]
@[simp] theorem clean_tup {ds : List PyData} : Wl.clean (.tuple ds) = Wl.cleans ds := by simp [Wl.clean]
@[simp] theorem clean_lst {ds : List PyData} : Wl.clean (.list ds) = Wl.cleans ds := by simp [Wl.clean]
@[simp] theorem cleans_nil : Wl.cleans [] = true := by simp [Wl.cleans]
@[simp] theorem cleans_cons {d : PyData} {ds : List PyData} : Wl.cleans (d :: ds) = (Wl.clean d && Wl.cleans ds) := by simp [Wl.cleans]
theorem cleans_iff {ds : List PyData} : Wl.cleans ds = true ↔ ∀ d ∈ ds, Wl.clean d = true := by
  induction ds with
  | nil => simp
  | cons d ds ih => simp [ih]
class RE (K : PySem.W.Frag) (XX : XP) (te : TE) (w : outParam WE) : Prop where
  run : ∀ {N : Addr → Prop} {σ : L2.St} {H : Hp} {ρ : Ev'} {h : Lh} {P : Wv} {Q : VK}, Sx K XX N H h → En K N H h σ ρ → w ρ h P → Ko K XX N H h P Q → te σ H Q
class RA (K : PySem.W.Frag) (XX : XP) (te : TA) (w : outParam WA) : Prop where
  run : ∀ {N : Addr → Prop} {σ : L2.St} {H : Hp} {ρ : Ev'} {h : Lh} {P : List PyData → Lh → Prop} {Q : List V → Hp → Prop}, Sx K XX N H h → En K N H h σ ρ → w ρ h P → KoA K XX N H h P Q → te σ H Q
class RT (K : PySem.W.Frag) (XX : XP) (te : TT) (w : outParam WT) : Prop where
  run : ∀ {N : Addr → Prop} {σ : L2.St} {H : Hp} {ρ : Ev'} {h : Lh} {P : Bool → Lh → Prop} {Q : Bool → Hp → Prop}, Sx K XX N H h → En K N H h σ ρ → w ρ h P → KoT K XX N H h P Q → te σ H Q
class RO (K : PySem.W.Frag) (XX : XP) (te : TO) (w : outParam WO) : Prop where
  run : ∀ {N : Addr → Prop} {σ : L2.St} {H : Hp} {ρ : Ev'} {h : Lh} {P : Option Int → Lh → Prop} {Q : Option Int → Hp → Prop}, Sx K XX N H h → En K N H h σ ρ → w ρ h P → KoO K XX N H h P Q → te σ H Q
class RN (K : PySem.W.Frag) (XX : XP) (te : TE) (w : outParam WA) : Prop where
  run : ∀ {N : Addr → Prop} {σ : L2.St} {H : Hp} {ρ : Ev'} {h : Lh} {P : List PyData → Lh → Prop} {Q : VK}, Sx K XX N H h → En K N H h σ ρ → w ρ h P → KoN K XX N H h P Q → te σ H Q
class R2W (K : PySem.W.Frag) (r : R2) (f : outParam (PyData → PyData → Lh → Wv → Prop)) : Prop where
  run : ∀ {XX : XP} {N : Addr → Prop} {H : Hp} {h : Lh} {x y : V} {d e : PyData} {P : Wv} {Q : VK}, Sx K XX N H h → Rl K N H h x d → Rl K N H h y e → f d e h P → Ko K XX N H h P Q → r x y H Q
class R1W (K : PySem.W.Frag) (r : V → Hp → VK → Prop) (f : outParam (PyData → Lh → Wv → Prop)) : Prop where
  run : ∀ {XX : XP} {N : Addr → Prop} {H : Hp} {h : Lh} {x : V} {d : PyData} {P : Wv} {Q : VK}, Sx K XX N H h → Rl K N H h x d → f d h P → Ko K XX N H h P Q → r x H Q
/-- a built-in's call -/
class RCW (K : PySem.W.Frag) (r : List V → Hp → VK → Prop) (f : outParam (List PyData → Lh → Wv → Prop)) : Prop where
  run : ∀ {XX : XP} {N : Addr → Prop} {H : Hp} {h : Lh} {xs : List V} {ds : List PyData} {P : Wv} {Q : VK}, Sx K XX N H h → Rls K N H h xs ds → f ds h P → Ko K XX N H h P Q → r xs H Q
/-- .. that makes a new list -/
class RCN (K : PySem.W.Frag) (r : List V → Hp → VK → Prop) (f : outParam (List PyData → Lh → (List PyData → Lh → Prop) → Prop)) : Prop where
  run : ∀ {XX : XP} {N : Addr → Prop} {H : Hp} {h : Lh} {xs : List V} {ds : List PyData} {P : List PyData → Lh → Prop} {Q : VK}, Sx K XX N H h → Rls K N H h xs ds → f ds h P → KoN K XX N H h P Q → r xs H Q
class R2N (K : PySem.W.Frag) (r : R2) (f : outParam (PyData → PyData → Lh → (List PyData → Lh → Prop) → Prop)) : Prop where
  run : ∀ {XX : XP} {N : Addr → Prop} {H : Hp} {h : Lh} {x y : V} {d e : PyData} {P : List PyData → Lh → Prop} {Q : VK}, Sx K XX N H h → Rl K N H h x d → Rl K N H h y e → f d e h P → KoN K XX N H h P Q → r x y H Q
section
variable {K : PySem.W.Frag} {XX : XP} {N : Addr → Prop} {H H' : Hp} {h h' : Lh} {P : Wv} {Q : VK} {v : V} {d : PyData}
theorem Ko.tr (t : Tr H h H' h') (k : Ko K XX N H h P Q) : Ko K XX N H' h' P Q := fun v d H2 h2 t2 S r p => k v d H2 h2 (t.trans t2) S r p
theorem KoA.tr {P : List PyData → Lh → Prop} {Q : List V → Hp → Prop} (t : Tr H h H' h') (k : KoA K XX N H h P Q) : KoA K XX N H' h' P Q := fun v d H2 h2 t2 S r p => k v d H2 h2 (t.trans t2) S r p
theorem KoT.tr {P : Bool → Lh → Prop} {Q : Bool → Hp → Prop} (t : Tr H h H' h') (k : KoT K XX N H h P Q) : KoT K XX N H' h' P Q := fun b H2 h2 t2 S p => k b H2 h2 (t.trans t2) S p
theorem KoO.tr {P : Option Int → Lh → Prop} {Q : Option Int → Hp → Prop} (t : Tr H h H' h') (k : KoO K XX N H h P Q) : KoO K XX N H' h' P Q := fun b H2 h2 t2 S p => k b H2 h2 (t.trans t2) S p
theorem KoN.tr {P : List PyData → Lh → Prop} (t : Tr H h H' h') (k : KoN K XX N H h P Q) : KoN K XX N H' h' P Q := fun p xs ds H2 h2 n t2 S e r q => k p xs ds H2 h2 (t.n p n) (t.trans t2) S e r q
theorem Ko.at {K : PySem.W.Frag} (k : Ko K XX N H h P Q) (S : Sx K XX N H h) (r : Rl K N H h v d) (p : P d h) : Q v H := k v d H h (Tr.refl H h) S r p
theorem Ko.w {P' : Wv} (k : Ko K XX N H h P Q) (f : ∀ d h', P' d h' → P d h') : Ko K XX N H h P' Q := fun v d H' h' t S r p => k v d H' h' t S r (f _ _ p)
/-- a new tuple -/
theorem Ko.tup {p : Addr} {xs : List V} {ds : List PyData} (k : Ko K XX N H h P Q) (S : Sx K XX N H h) (hp : H p = none) (r : Rls K N H h xs ds) (q : P (.tuple ds) h) : Q (.ref p) (L2.upd H p (.tup xs)) :=
  k _ _ _ h (Tr.new hp) (S.new hp) (.tup (.inl ⟨upd_same, S.hn hp, S.nn hp⟩) (r.tr (Tr.new hp))) q
theorem Sim.more {p : Addr} (S : Sim K N H h) (hp : H p = none) {u : HO} : Sim K (fun a => N a ∨ a = p) (L2.upd H p u) h := by
  have S' := S.new (v := u) hp
  have f : ∀ a, (N a ∨ a = p) → N a ∨ H a = none := fun a z => z.imp id fun e => by rw [e]; exact hp
  refine ⟨fun a o q => ?_, fun a z => ?_⟩
  · obtain ⟨n, u', e, k⟩ := S.at_ a o q
    have ne : a ≠ p := fun z => by rw [z, hp] at e; cases e
    refine ⟨fun z => z.elim n ne, u', by rw [upd_ne ne]; exact e, ?_⟩
    have f2 : ∀ a, (N a ∨ a = p) → N a ∨ H a = none := f
    exact (k.mono (fun v d r => Rl.hid f2 r) (fun v d r => Rls.hid f2 r)).tr (Tr.new hp)
  · rcases z with z | z
    · exact S'.hid a z
    · subst z; rw [upd_same]; intro z; cases z
theorem Sx.more {p : Addr} (S : Sx K XX N H h) (hp : H p = none) {u : HO} : Sx K XX (fun a => N a ∨ a = p) (L2.upd H p u) h := ⟨S.toSim.more hp, (S.x.tr (Tr.new hp)).hid fun a z => .inl z⟩
theorem Rls.more {p : Addr} {xs : List V} {ds : List PyData} {u : HO} (r : Rls K N H h xs ds) (hp : H p = none) : Rls K (fun a => N a ∨ a = p) (L2.upd H p u) h xs ds :=
  (Rls.hid (N' := fun a => N a ∨ a = p) (fun a z => z.imp id fun e => by rw [e]; exact hp) r).tr (Tr.new hp)
theorem KoN.new {p : Addr} {xs : List V} {ds : List PyData} {P : List PyData → Lh → Prop} (k : KoN K XX N H h P Q) (S : Sx K XX N H h) (hp : H p = none) (r : Rls K N H h xs ds) (q : P ds h) : Q (.ref p) (L2.upd H p (.lst xs)) :=
  k p xs ds _ h hp (Tr.new hp) (S.more hp) upd_same (r.more hp) q
/-- the new list: data -/
theorem Ko.lst {P : Wv} (k : Ko K XX N H h P Q) (S : Sx K XX N H h) : KoN K XX N H h (fun ds h' => P (.list ds) h') Q := fun p xs ds H' h' n t S' e r q => by
  have f : ∀ a, N a → (N a ∨ a = p) ∨ H' a = none := fun a z => .inl (.inl z)
  have np : ¬ N p := S.nn n
  have hp' : h' p = none := by
    cases z : h' p with
    | none => rfl
    | some o => exact absurd (.inr rfl) (S'.at_ p o z).1
  exact k _ _ H' h' t (S.to t (S'.toSim.less fun a z => .inl z)) (.lst ⟨e, hp', np⟩ (r.hid f)) q
/-- the new list: mutable -/
theorem Ko.ref {P : Wv} (k : Ko K XX N H h P Q) (S : Sx K XX N H h) : KoN K XX N H h (fun ds h' => ∀ p, h p = none → h' p = none → P (rf p) (up h' p (.lst ds))) Q := fun p xs ds H' h' n t S' e r q => by
  have np : ¬ N p := S.nn n
  have hp' : h' p = none := by
    cases z : h' p with
    | none => rfl
    | some o => exact absurd (.inr rfl) (S'.at_ p o z).1
  have f : ∀ a o, H' a = some o → h' a = none → ¬ (N a ∨ a = p) → H' a = some o ∧ up h' p (.lst ds) a = none ∧ ¬ N a := fun a o e1 e2 e3 => by
    have ne : a ≠ p := fun z => e3 (.inr z)
    exact ⟨e1, by rw [up_ne ne]; exact e2, fun z => e3 (.inl z)⟩
  have t2 : Tr H h H' (up h' p (.lst ds)) := ⟨fun a o e1 e2 => by
    have ne : a ≠ p := fun z => by rw [z, n] at e1; cases e1
    exact ⟨(t.k a o e1 e2).1, by rw [up_ne ne]; exact (t.k a o e1 e2).2⟩, t.n⟩
  refine k _ _ H' (up h' p (.lst ds)) t2 (S.to t2 ⟨fun a o q => ?_, fun a z => S'.hid a (.inl z)⟩) (.rf p) (q p (S.hn n) hp')
  by_cases c : a = p
  · subst c
    rw [up_same] at q
    cases q
    exact ⟨np, _, e, .lst (r.trN f)⟩
  · rw [up_ne c] at q
    obtain ⟨n', u', e', k'⟩ := S'.at_ a o q
    exact ⟨fun z => n' (.inl z), u', e', k'.mono (fun v d => Rl.trN f) (fun v d => Rls.trN f)⟩
/-- what is read as a list -/
def lv (h : Lh) : PyData → Option (List PyData)
  | .list ds => some ds
  | .dict [(.int i, .none)] => match h i.toNat with
    | some (.lst ds) => some ds
    | _ => none
  | .dict [(.none, .tuple ds)] => some ds
  | _ => none
/-- the script -/
def isSc : PyData → Bool
  | .dict [(.none, _)] => true
  | _ => false
@[simp] theorem isSc_list {ds : List PyData} : isSc (.list ds) = false := rfl
@[simp] theorem isSc_rf {i : Int} : isSc (.dict [(.int i, .none)]) = false := rfl
@[simp] theorem lv_sc {h : Lh} {ds : List PyData} : Wl.lv h (.dict [(.none, .tuple ds)]) = some ds := rfl
@[simp] theorem lv_list {h : Lh} {ds : List PyData} : Wl.lv h (.list ds) = some ds := rfl
@[simp] theorem lv_tup {h : Lh} {ds : List PyData} : Wl.lv h (.tuple ds) = Option.none := rfl
@[simp] theorem lv_int {h : Lh} {i : Int} : Wl.lv h (.int i) = Option.none := rfl
@[simp] theorem lv_str {h : Lh} {i : Str} : Wl.lv h (.str i) = Option.none := rfl
@[simp] theorem lv_bool {h : Lh} {i : Bool} : Wl.lv h (.bool i) = Option.none := rfl
@[simp] theorem lv_none {h : Lh} : Wl.lv h .none = Option.none := rfl
@[simp] theorem lv_rf {h : Lh} {p : Addr} : Wl.lv h (.dict [(.int ((p : Nat) : Int), .none)]) = match h p with | some (.lst ds) => some ds | _ => Option.none := by simp only [Wl.lv, Int.toNat_natCast]
theorem Rl.lvo {ds : List PyData} (S : Sx K XX N H h) (r : Rl K N H h v d) (e : Wl.lv h d = some ds) (c : isSc d = false) : ∃ a xs, v = .ref a ∧ H a = some (.lst xs) ∧ Rls K N H h xs ds := by
  cases r with
  | lst a b => cases e; exact ⟨_, _, rfl, a.1, b⟩
  | rf a =>
    simp only [Wl.lv, Int.toNat_natCast] at e
    cases q : h a with
    | none => rw [q] at e; cases e
    | some o =>
      obtain ⟨n, u, z, k⟩ := S.at_ a o q
      cases k with
      | lst k => rw [q] at e; cases e; exact ⟨a, _, rfl, z, k⟩
      | _ => rw [q] at e; cases e
  | scr ns _ => cases c
  | _ => cases e
theorem Rls.ints : ∀ ns : List Int, Rls K N H h (ns.map V.int) (ns.map PyData.int)
  | [] => .nil
  | n :: ns => .cons (.int n) (Rls.ints ns)
theorem Rl.lv {ds : List PyData} (S : Sx K XX N H h) (r : Rl K N H h v d) (e : Wl.lv h d = some ds) : ∃ a xs, v = .ref a ∧ SqL K H a xs ∧ Rls K N H h xs ds := by
  cases c : isSc d with
  | false =>
    obtain ⟨a, xs, e1, e2, e3⟩ := r.lvo S e c
    exact ⟨a, xs, e1, SqL.of e2, e3⟩
  | true =>
    cases r with
    | scr ns q =>
      cases e
      refine ⟨_, _, rfl, ?_, Rls.ints ns⟩
      rcases q with q | q
      · exact .inl q.1
      · exact .inr q
    | rf a => cases c
    | lst _ _ => cases c
    | _ => cases e
theorem Rl.lvH {ds : List PyData} {a : Addr} (S : Sx K XX N H h) (e : h a = some (.lst ds)) : ∃ xs, H a = some (.lst xs) ∧ Rls K N H h xs ds := by
  obtain ⟨n, u, z, k⟩ := S.at_ a _ e
  cases k with
  | lst k => exact ⟨_, z, k⟩
theorem Rl.insH {fs : List (Str × PyData)} {a C : Addr} (S : Sx K XX N H h) (e : h a = some (.ins C fs)) : ∃ dx xs, H a = some (.ins C dx xs) ∧ Paired (fun (p : Str × V) (q : Str × PyData) => p.1 = q.1 ∧ Rl K N H h p.2 q.2) xs fs := by
  obtain ⟨n, u, z, k⟩ := S.at_ a _ e
  cases k with
  | ins k => exact ⟨_, _, z, k⟩
theorem Paired.lookup {f : Str} : ∀ {xs : List (Str × V)} {fs : List (Str × PyData)}, Paired (fun (p : Str × V) (q : Str × PyData) => p.1 = q.1 ∧ Rl K N H h p.2 q.2) xs fs →
    (fs.lookup f = none → xs.lookup f = none) ∧ ∀ d, fs.lookup f = some d → ∃ v, xs.lookup f = some v ∧ Rl K N H h v d
  | _, _, .nil => ⟨fun _ => rfl, fun d e => by cases e⟩
  | (k, v) :: xs, (k', d') :: fs, .cons a b => by
    obtain ⟨a1, a2⟩ := a
    cases a1
    have ih := Paired.lookup (f := f) b
    by_cases c : f == k
    · refine ⟨fun e => ?_, fun d e => ?_⟩
      · simp [List.lookup, c] at e
      · simp [List.lookup, c] at e
        subst e
        exact ⟨v, by simp [List.lookup, c], a2⟩
    · simp only [Bool.not_eq_true] at c
      refine ⟨fun e => ?_, fun d e => ?_⟩
      · simp only [List.lookup, c] at e ⊢
        exact ih.1 e
      · simp only [List.lookup, c] at e ⊢
        exact ih.2 d e
end
/-! ### names, constants -/
@[simp] def wVar (i : Nat) : WE := fun ρ h P => ∃ d, ρ[i]? = some (some d) ∧ P d h
@[simp] def wC (d : PyData) : WE := fun _ h P => P d h
/-- a constant of the text -/
class KD (K : PySem.W.Frag) (a : Addr) (d : outParam PyData) : Prop where
  is : ∀ N H h, Rl K N H h (.ref a) d
section
variable {K : PySem.W.Frag} {XX : XP}
instance (i : Nat) : RE K XX (tVar i) (wVar i) := ⟨fun S E ⟨d, e, p⟩ k => by
  obtain ⟨v, a, r⟩ := E.2 i d e
  exact ⟨v, a, k.at S r p⟩⟩
instance : RE K XX (tC .non) (wC .none) := ⟨fun S E p k => k.at S .non p⟩
instance (b : Bool) : RE K XX (tC (.bl b)) (wC (.bool b)) := ⟨fun S E p k => k.at S (.bl b) p⟩
instance (b : Int) : RE K XX (tC (.int b)) (wC (.int b)) := ⟨fun S E p k => k.at S (.int b) p⟩
instance (b : Str) : RE K XX (tC (.str b)) (wC (.str b)) := ⟨fun S E p k => k.at S (.str b) p⟩
instance (a : Addr) (d : PyData) [c : KD K a d] : RE K XX (tC (.ref a)) (wC d) := ⟨fun S E p k => k.at S (c.is _ _ _) p⟩
/-! ### arguments, displays -/
@[simp] def wNil : WA := fun _ h P => P [] h
@[simp] def wCons (a : WE) (b : WA) : WA := fun ρ h P => a ρ h fun d h1 => b ρ h1 fun ds h2 => P (d :: ds) h2
instance : RA K XX tNil wNil := ⟨fun S E p k => k _ _ _ _ (Tr.refl _ _) S .nil p⟩
instance {ta : TE} {tb : TA} {a : WE} {b : WA} [A : RE K XX ta a] [B : RA K XX tb b] : RA K XX (tCons ta tb) (wCons a b) := ⟨fun S E p k =>
  A.run S E p fun v d H1 h1 t1 S1 r1 p1 => B.run S1 (E.tr t1) p1 fun vs ds H2 h2 t2 S2 r2 p2 => k _ _ _ _ (t1.trans t2) S2 (.cons (r1.tr t2) r2) p2⟩
@[simp] def wTup (a : WA) : WE := fun ρ h P => a ρ h fun ds h1 => ds.length ≤ 100000 ∧ P (.tuple ds) h1
instance {ta : TA} {a : WA} [A : RA K XX ta a] : RE K XX (tTup ta) (wTup a) := ⟨fun S E p k =>
  A.run S E p fun vs ds H1 h1 t1 S1 r1 p1 => ⟨sz_of (by rw [r1.length]; exact p1.1), fun p hp => (k.tr t1).tup S1 hp r1 p1.2⟩⟩
@[simp] def wLst (a : WA) : WA := fun ρ h P => a ρ h fun ds h1 => ds.length ≤ 100000 ∧ P ds h1
instance {ta : TA} {a : WA} [A : RA K XX ta a] : RN K XX (tLst ta) (wLst a) := ⟨fun S E p k =>
  A.run S E p fun vs ds H1 h1 t1 S1 r1 p1 => ⟨sz_of (by rw [r1.length]; exact p1.1), fun p hp => (k.tr t1).new S1 hp r1 p1.2⟩⟩
/-- a new list, as data -/
@[simp] def wDat (a : WA) : WE := fun ρ h P => a ρ h fun ds h1 => P (.list ds) h1
instance (priority := low) {te : TE} {a : WA} [A : RN K XX te a] : RE K XX te (wDat a) := ⟨fun S E p k => A.run S E p (k.lst S)⟩
/-- .. that will change -/
def tRef (te : TE) : TE := te
@[simp] def wRef (a : WA) : WE := fun ρ h P => a ρ h fun ds h1 => ∀ p, h p = none → h1 p = none → P (rf p) (up h1 p (.lst ds))
instance {te : TE} {a : WA} [A : RN K XX te a] : RE K XX (tRef te) (wRef a) := ⟨fun S E p k => A.run (te := te) S E p (k.ref S)⟩
theorem pe_ref {X : Cx} {e : Expr} {te : TE} (h : PE X e te) : PE X e (tRef te) := h
/-! ### operators -/
@[simp] def wOp (f : PyData → PyData → Lh → Wv → Prop) (a b : WE) : WE := fun ρ h P => a ρ h fun d h1 => b ρ h1 fun e h2 => f d e h2 P
instance {r : R2} {f : PyData → PyData → Lh → Wv → Prop} {ta tb : TE} {a b : WE} [A : RE K XX ta a] [B : RE K XX tb b] [R : R2W K r f] : RE K XX (tOp r ta tb) (wOp f a b) := ⟨fun S E p k =>
  A.run S E p fun v d H1 h1 t1 S1 r1 p1 => B.run S1 (E.tr t1) p1 fun w e H2 h2 t2 S2 r2 p2 => R.run S2 (r1.tr t2) r2 p2 (k.tr (t1.trans t2))⟩
@[simp] def wOpN (f : PyData → PyData → Lh → (List PyData → Lh → Prop) → Prop) (a b : WE) : WA := fun ρ h P => a ρ h fun d h1 => b ρ h1 fun e h2 => f d e h2 P
instance {r : R2} {f : PyData → PyData → Lh → (List PyData → Lh → Prop) → Prop} {ta tb : TE} {a b : WE} [A : RE K XX ta a] [B : RE K XX tb b] [R : R2N K r f] : RN K XX (tOp r ta tb) (wOpN f a b) := ⟨fun S E p k =>
  A.run S E p fun v d H1 h1 t1 S1 r1 p1 => B.run S1 (E.tr t1) p1 fun w e H2 h2 t2 S2 r2 p2 => R.run S2 (r1.tr t2) r2 p2 (k.tr (t1.trans t2))⟩
@[simp] def wUn (f : PyData → Lh → Wv → Prop) (a : WE) : WE := fun ρ h P => a ρ h fun d h1 => f d h1 P
instance {r : V → Hp → VK → Prop} {f : PyData → Lh → Wv → Prop} {ta : TE} {a : WE} [A : RE K XX ta a] [R : R1W K r f] : RE K XX (tUn r ta) (wUn f a) := ⟨fun S E p k =>
  A.run S E p fun v d H1 h1 t1 S1 r1 p1 => R.run S1 r1 p1 (k.tr t1)⟩
@[simp] def fII (g : Int → Int → Int) (d e : PyData) (h : Lh) (P : Wv) : Prop := ∃ i j, d = .int i ∧ e = .int j ∧ P (.int (g i j)) h
instance (g : Int → Int → Int) : R2W K (rI0 fun i j => V.int (g i j)) (fII g) := ⟨fun S a b ⟨i, j, e1, e2, p⟩ k => by
  subst e1; subst e2; exact ⟨i, j, a.i, b.i, k.at S (.int _) p⟩⟩
@[simp] def fIB (g : Int → Int → Bool) (d e : PyData) (h : Lh) (P : Wv) : Prop := ∃ i j, d = .int i ∧ e = .int j ∧ P (.bool (g i j)) h
instance (g : Int → Int → Bool) : R2W K (rI0 fun i j => V.bl (g i j)) (fIB g) := ⟨fun S a b ⟨i, j, e1, e2, p⟩ k => by
  subst e1; subst e2; exact ⟨i, j, a.i, b.i, k.at S (.bl _) p⟩⟩
@[simp] def fIC (C : Int → Int → Prop) (g : Int → Int → Int) (d e : PyData) (h : Lh) (P : Wv) : Prop := ∃ i j, d = .int i ∧ e = .int j ∧ C i j ∧ P (.int (g i j)) h
instance (C : Int → Int → Prop) (g : Int → Int → Int) : R2W K (rI C fun i j => V.int (g i j)) (fIC C g) := ⟨fun S a b ⟨i, j, e1, e2, c, p⟩ k => by
  subst e1; subst e2; exact ⟨i, j, a.i, b.i, c, k.at S (.int _) p⟩⟩
/-- == of scalars of one kind, or None -/
def scD : PyData → PyData → Option Bool
  | .none, .none => some true
  | .none, .int _ => some false | .int _, .none => some false
  | .none, .bool _ => some false | .bool _, .none => some false
  | .none, .str _ => some false | .str _, .none => some false
  | .int i, .int j => some (decide (i = j))
  | .bool i, .bool j => some (decide (i = j))
  | .str i, .str j => some (decide (i = j))
  | .int _, .str _ => some false | .str _, .int _ => some false
  | .bool _, .str _ => some false | .str _, .bool _ => some false
  | _, _ => none
@[simp] theorem scD_none_none : Wl.scD .none .none = some true := rfl
@[simp] theorem scD_none_bool {b : Bool} : Wl.scD .none (.bool b) = some false := rfl
@[simp] theorem scD_none_int {b : Int} : Wl.scD .none (.int b) = some false := rfl
@[simp] theorem scD_none_str {b : Str} : Wl.scD .none (.str b) = some false := rfl
@[simp] theorem scD_bool_none {a : Bool} : Wl.scD (.bool a) .none = some false := rfl
@[simp] theorem scD_bool_bool {a : Bool} {b : Bool} : Wl.scD (.bool a) (.bool b) = some (decide (a = b)) := rfl
@[simp] theorem scD_bool_str {a : Bool} {b : Str} : Wl.scD (.bool a) (.str b) = some false := rfl
@[simp] theorem scD_int_none {a : Int} : Wl.scD (.int a) .none = some false := rfl
@[simp] theorem scD_int_int {a : Int} {b : Int} : Wl.scD (.int a) (.int b) = some (decide (a = b)) := rfl
@[simp] theorem scD_int_str {a : Int} {b : Str} : Wl.scD (.int a) (.str b) = some false := rfl
@[simp] theorem scD_str_none {a : Str} : Wl.scD (.str a) .none = some false := rfl
@[simp] theorem scD_str_bool {a : Str} {b : Bool} : Wl.scD (.str a) (.bool b) = some false := rfl
@[simp] theorem scD_str_int {a : Str} {b : Int} : Wl.scD (.str a) (.int b) = some false := rfl
@[simp] theorem scD_str_str {a : Str} {b : Str} : Wl.scD (.str a) (.str b) = some (decide (a = b)) := rfl
theorem scD_ok {N : Addr → Prop} {H : Hp} {h : Lh} {x y : V} {d e : PyData} {b : Bool} (a : Rl K N H h x d) (c : Rl K N H h y e) (q : scD d e = some b) : scal x y = true ∧ decide (x = y) = b := by
  cases a <;> cases c <;> simp_all [scD, scal]
def onB : Option Bool → (Bool → Prop) → Prop
  | some b, k => k b
  | none, _ => False
@[simp] theorem onB_some {b : Bool} {k : Bool → Prop} : onB (some b) k = k b := rfl
@[simp] theorem onB_none {k : Bool → Prop} : onB none k = False := rfl
theorem onB_ex {o : Option Bool} {k : Bool → Prop} (h : onB o k) : ∃ b, o = some b ∧ k b := by
  cases o with
  | none => exact h.elim
  | some b => exact ⟨b, rfl, h⟩
@[simp] def fEq (d e : PyData) (h : Lh) (P : Wv) : Prop := onB (scD d e) fun b => P (.bool b) h
@[simp] def fNe (d e : PyData) (h : Lh) (P : Wv) : Prop := onB (scD d e) fun b => P (.bool (!b)) h
instance : R2W K rEq fEq := ⟨fun S a c z k => by
  obtain ⟨b, e, p⟩ := onB_ex z
  obtain ⟨q1, q2⟩ := scD_ok a c e
  exact ⟨q1, by rw [q2]; exact k.at S (.bl _) p⟩⟩
instance : R2W K rNe fNe := ⟨fun S a c z k => by
  obtain ⟨b, e, p⟩ := onB_ex z
  obtain ⟨q1, q2⟩ := scD_ok a c e
  exact ⟨q1, by rw [q2]; exact k.at S (.bl _) p⟩⟩
@[simp] theorem shaped_none : SeqAt.shaped .none = true := by decide
@[simp] theorem shaped_int {i : Int} : SeqAt.shaped (.int i) = true := by simp [SeqAt.shaped, PyData.canLay0, PyData.depth]
@[simp] theorem shaped_bool {i : Bool} : SeqAt.shaped (.bool i) = true := by simp [SeqAt.shaped, PyData.canLay0, PyData.depth]
@[simp] theorem shaped_nilT : SeqAt.shaped (.tuple []) = true := Pd.shaped_nil
@[simp] theorem shaped_nilL : SeqAt.shaped (.list []) = true := by decide
@[simp] theorem eqv_nilT {ds : List PyData} : PyData.eqv (.tuple ds) (.tuple []) = ds.isEmpty := Pd.eqv_nil ds
/-- == of data; a list that may change as it is now -/
def snap (h : Lh) (d : PyData) : PyData := match lv h d with
  | some ds => .list ds
  | none => d
@[simp] theorem snap_none  {h : Lh} : Wl.snap h .none = .none := rfl
@[simp] theorem snap_bool {b : Bool} {h : Lh} : Wl.snap h (.bool b) = (.bool b) := rfl
@[simp] theorem snap_int {i : Int} {h : Lh} : Wl.snap h (.int i) = (.int i) := rfl
@[simp] theorem snap_str {s : Str} {h : Lh} : Wl.snap h (.str s) = (.str s) := rfl
@[simp] theorem snap_list {l : List PyData} {h : Lh} : Wl.snap h (.list l) = (.list l) := rfl
@[simp] theorem snap_tup {l : List PyData} {h : Lh} : Wl.snap h (.tuple l) = (.tuple l) := rfl
@[simp] theorem snap_rf {h : Lh} {p : Addr} : Wl.snap h (.dict [(.int ((p : Nat) : Int), .none)]) = match h p with | some (.lst ds) => .list ds | _ => .dict [(.int ((p : Nat) : Int), .none)] := by
  simp only [Wl.snap, lv_rf]
  cases h p with
  | none => rfl
  | some o => cases o <;> rfl
theorem Rl.snap {N : Addr → Prop} {H : Hp} {h : Lh} {x : V} {d : PyData} (S : Sx K XX N H h) (r : Rl K N H h x d) (p : clean (Wl.snap h d) = true) : Dp K H x (Wl.snap h d) := by
  unfold Wl.snap at p ⊢
  cases e : Wl.lv h d with
  | none => rw [e] at p; exact r.dp p
  | some ds =>
    obtain ⟨a, xs, rfl, q, rs⟩ := r.lv S e
    rw [e] at p
    exact .lst q (rs.dp p)
@[simp] def fEqD (d e : PyData) (h : Lh) (P : Wv) : Prop := clean (snap h d) = true ∧ clean (snap h e) = true ∧ SeqAt.shaped (snap h d) = true ∧ SeqAt.shaped (snap h e) = true ∧ P (.bool (PyData.eqv (snap h d) (snap h e))) h
@[simp] def fNeD (d e : PyData) (h : Lh) (P : Wv) : Prop := clean (snap h d) = true ∧ clean (snap h e) = true ∧ SeqAt.shaped (snap h d) = true ∧ SeqAt.shaped (snap h e) = true ∧ P (.bool (!PyData.eqv (snap h d) (snap h e))) h
instance : R2W K (rEqD K) fEqD := ⟨fun S a c ⟨p1, p2, s1, s2, p⟩ k => ⟨_, _, a.snap S p1, c.snap S p2, s1, s2, k.at S (.bl _) p⟩⟩
instance : R2W K (rNeD K) fNeD := ⟨fun S a c ⟨p1, p2, s1, s2, p⟩ k => ⟨_, _, a.snap S p1, c.snap S p2, s1, s2, k.at S (.bl _) p⟩⟩
def isN : PyData → Bool
  | .none => true
  | _ => false
@[simp] theorem isN_none  : Wl.isN .none = true := rfl
@[simp] theorem isN_bool {b : Bool} : Wl.isN (.bool b) = false := rfl
@[simp] theorem isN_int {i : Int} : Wl.isN (.int i) = false := rfl
@[simp] theorem isN_str {s : Str} : Wl.isN (.str s) = false := rfl
@[simp] theorem isN_list {l : List PyData} : Wl.isN (.list l) = false := rfl
@[simp] theorem isN_tup {l : List PyData} : Wl.isN (.tuple l) = false := rfl
@[simp] theorem isN_dict {k : List (PyData × PyData)} : Wl.isN (.dict k) = false := rfl
theorem Rl.isN {N : Addr → Prop} {H : Hp} {h : Lh} {x : V} {d : PyData} (a : Rl K N H h x d) : decide (x = .non) = isN d := by cases a <;> rfl
@[simp] def fIs (d e : PyData) (h : Lh) (P : Wv) : Prop := e = .none ∧ P (.bool (isN d)) h
@[simp] def fIsNt (d e : PyData) (h : Lh) (P : Wv) : Prop := e = .none ∧ P (.bool (!isN d)) h
instance : R2W K (fun x y H Q => y = .non ∧ Q (.bl (decide (x = .non))) H) fIs := ⟨fun S a c ⟨e, p⟩ k => by
  subst e; refine ⟨c.n, ?_⟩; rw [a.isN]; exact k.at S (.bl _) p⟩
instance : R2W K (fun x y H Q => y = .non ∧ Q (.bl (!decide (x = .non))) H) fIsNt := ⟨fun S a c ⟨e, p⟩ k => by
  subst e; refine ⟨c.n, ?_⟩; rw [a.isN]; exact k.at S (.bl _) p⟩
/-! texts -/
@[simp] def fSS (g : Str → Str → Bool) (d e : PyData) (h : Lh) (P : Wv) : Prop := ∃ i j, d = .str i ∧ e = .str j ∧ P (.bool (g i j)) h
instance : R2W K (fun x y H Q => ∃ i j, x = .str i ∧ y = .str j ∧ Q (.bl (decide (i.cps.toList < j.cps.toList))) H) (fSS fun i j => decide (i.cps.toList < j.cps.toList)) := ⟨fun S a c ⟨i, j, e1, e2, p⟩ k => by
  subst e1; subst e2; exact ⟨i, j, a.s, c.s, k.at S (.bl _) p⟩⟩
instance : R2W K (fun x y H Q => ∃ i j, x = .str i ∧ y = .str j ∧ Q (.bl (decide (j.cps.toList < i.cps.toList))) H) (fSS fun i j => decide (j.cps.toList < i.cps.toList)) := ⟨fun S a c ⟨i, j, e1, e2, p⟩ k => by
  subst e1; subst e2; exact ⟨i, j, a.s, c.s, k.at S (.bl _) p⟩⟩
instance : R2W K (fun x y H Q => ∃ i j, x = .str i ∧ y = .str j ∧ Q (.bl (!decide (i.cps.toList < j.cps.toList))) H) (fSS fun i j => !decide (i.cps.toList < j.cps.toList)) := ⟨fun S a c ⟨i, j, e1, e2, p⟩ k => by
  subst e1; subst e2; exact ⟨i, j, a.s, c.s, k.at S (.bl _) p⟩⟩
@[simp] def fAddS (d e : PyData) (h : Lh) (P : Wv) : Prop := ∃ i j, d = .str i ∧ e = .str j ∧ i.length + j.length ≤ 100000 ∧ P (.str (i ++ j)) h
instance : R2W K (fun x y H Q => ∃ i j, x = .str i ∧ y = .str j ∧ i.length + j.length ≤ sizeLine ∧ Q (.str (i ++ j)) H) fAddS := ⟨fun S a c ⟨i, j, e1, e2, z, p⟩ k => by
  subst e1; subst e2; exact ⟨i, j, a.s, c.s, sz_of z, k.at S (.str _) p⟩⟩
@[simp] def fInS (d e : PyData) (h : Lh) (P : Wv) : Prop := ∃ (c : Nat) (j : Str), d = .str ⟨#[c]⟩ ∧ e = .str j ∧ P (.bool (decide (c ∈ j.cps.toList))) h
instance : R2W K (fun x y H Q => ∃ (c : Nat) (z : Str), x = .str ⟨#[c]⟩ ∧ y = .str z ∧ Q (.bl (decide (c ∈ z.cps.toList))) H) fInS := ⟨fun S a c ⟨i, j, e1, e2, p⟩ k => by
  subst e1; subst e2; exact ⟨i, j, a.s, c.s, k.at S (.bl _) p⟩⟩
/-! in -/
def tv : PyData → Option (List PyData)
  | .tuple ds => some ds
  | _ => none
@[simp] theorem tv_none  : Wl.tv .none = Option.none := rfl
@[simp] theorem tv_bool {b : Bool} : Wl.tv (.bool b) = Option.none := rfl
@[simp] theorem tv_int {i : Int} : Wl.tv (.int i) = Option.none := rfl
@[simp] theorem tv_str {s : Str} : Wl.tv (.str s) = Option.none := rfl
@[simp] theorem tv_list {l : List PyData} : Wl.tv (.list l) = Option.none := rfl
@[simp] theorem tv_tup {l : List PyData} : Wl.tv (.tuple l) = some l := rfl
@[simp] theorem tv_dict {k : List (PyData × PyData)} : Wl.tv (.dict k) = Option.none := rfl
/-- a tuple or a list -/
def qv (h : Lh) (d : PyData) : Option (List PyData) := match tv d with
  | some ds => some ds
  | none => lv h d
@[simp] theorem qv_tup {h : Lh} {l : List PyData} : Wl.qv h (.tuple l) = some l := rfl
@[simp] theorem qv_list {h : Lh} {l : List PyData} : Wl.qv h (.list l) = some l := rfl
@[simp] theorem qv_dict {h : Lh} {k : List (PyData × PyData)} : Wl.qv h (.dict k) = Wl.lv h (.dict k) := rfl
section
variable {N : Addr → Prop} {H : Hp} {h : Lh} {x : V} {d : PyData} {ds : List PyData}
theorem Rl.tv (r : Rl K N H h x d) (e : Wl.tv d = some ds) : ∃ a xs, x = .ref a ∧ SqT K H a xs ∧ Rls K N H h xs ds := by
  unfold Wl.tv at e
  split at e
  · cases e
    obtain ⟨a, xs, e, t, rs⟩ := r.t
    exact ⟨a, xs, e, t.sq, rs⟩
  · cases e
theorem Rl.qv (S : Sx K XX N H h) (r : Rl K N H h x d) (e : Wl.qv h d = some ds) : ∃ a xs, x = .ref a ∧ (SqL K H a xs ∨ SqT K H a xs) ∧ Rls K N H h xs ds := by
  unfold Wl.qv at e
  cases q : Wl.tv d with
  | some es =>
    rw [q] at e; cases e
    obtain ⟨a, xs, e, t, rs⟩ := r.tv q
    exact ⟨a, xs, e, .inr t, rs⟩
  | none =>
    rw [q] at e
    obtain ⟨a, xs, e, t, rs⟩ := r.lv S e
    exact ⟨a, xs, e, .inl t, rs⟩
def flat1 : PyData → Bool
  | .none => true | .bool _ => true | .int _ => true | .str _ => true
  | _ => false
@[simp] theorem flat1_none  : Wl.flat1 .none = true := rfl
@[simp] theorem flat1_bool {b : Bool} : Wl.flat1 (.bool b) = true := rfl
@[simp] theorem flat1_int {i : Int} : Wl.flat1 (.int i) = true := rfl
@[simp] theorem flat1_str {s : Str} : Wl.flat1 (.str s) = true := rfl
@[simp] theorem flat1_list {l : List PyData} : Wl.flat1 (.list l) = false := rfl
@[simp] theorem flat1_tup {l : List PyData} : Wl.flat1 (.tuple l) = false := rfl
@[simp] theorem flat1_dict {k : List (PyData × PyData)} : Wl.flat1 (.dict k) = false := rfl
/-- == of scalars -/
def eq1 : PyData → PyData → Bool
  | .none, .none => true
  | .bool a, .bool b => a == b
  | .bool a, .int b => (if a then 1 else 0) == b
  | .int a, .bool b => a == (if b then 1 else 0)
  | .int a, .int b => a == b
  | .str a, .str b => a == b
  | _, _ => false
@[simp] theorem eq1_none_none : Wl.eq1 .none .none = true := rfl
@[simp] theorem eq1_none_bool {b : Bool} : Wl.eq1 .none (.bool b) = false := rfl
@[simp] theorem eq1_none_int {b : Int} : Wl.eq1 .none (.int b) = false := rfl
@[simp] theorem eq1_none_str {b : Str} : Wl.eq1 .none (.str b) = false := rfl
@[simp] theorem eq1_bool_none {a : Bool} : Wl.eq1 (.bool a) .none = false := rfl
@[simp] theorem eq1_bool_bool {a : Bool} {b : Bool} : Wl.eq1 (.bool a) (.bool b) = (a == b) := rfl
@[simp] theorem eq1_bool_int {a : Bool} {b : Int} : Wl.eq1 (.bool a) (.int b) = ((if a then 1 else 0) == b) := rfl
@[simp] theorem eq1_bool_str {a : Bool} {b : Str} : Wl.eq1 (.bool a) (.str b) = false := rfl
@[simp] theorem eq1_int_none {a : Int} : Wl.eq1 (.int a) .none = false := rfl
@[simp] theorem eq1_int_bool {a : Int} {b : Bool} : Wl.eq1 (.int a) (.bool b) = (a == (if b then 1 else 0)) := rfl
@[simp] theorem eq1_int_int {a : Int} {b : Int} : Wl.eq1 (.int a) (.int b) = decide (b = a) := by
  show (a == b) = decide (b = a)
  by_cases h : a = b
  · subst h; simp
  · simp [h, Ne.symm h]
@[simp] theorem eq1_int_str {a : Int} {b : Str} : Wl.eq1 (.int a) (.str b) = false := rfl
@[simp] theorem eq1_str_none {a : Str} : Wl.eq1 (.str a) .none = false := rfl
@[simp] theorem eq1_str_bool {a : Str} {b : Bool} : Wl.eq1 (.str a) (.bool b) = false := rfl
@[simp] theorem eq1_str_int {a : Str} {b : Int} : Wl.eq1 (.str a) (.int b) = false := rfl
@[simp] theorem eq1_str_str {a : Str} {b : Str} : Wl.eq1 (.str a) (.str b) = decide (b = a) := by
  show (a == b) = decide (b = a)
  by_cases h : a = b
  · subst h; simp
  · simp [h, Ne.symm h]
theorem Rl.flat1 (r : Rl K N H h x d) : flatV x = flat1 d := by cases r <;> rfl
theorem Rl.eq1 {y : V} {e : PyData} (r : Rl K N H h x d) (q : Rl K N H h y e) : eqV x y = eq1 d e := by cases r <;> cases q <;> rfl
theorem Rls.flat1 : ∀ {ds : List PyData} {xs : List V}, Rls K N H h xs ds → xs.all flatV = ds.all Wl.flat1
  | [], _, r => by cases r; rfl
  | d :: ds, _, r => by cases r with | cons a b => rw [List.all_cons, List.all_cons, a.flat1, Rls.flat1 b]
theorem Rls.in1 (r : Rl K N H h x d) : ∀ {ds : List PyData} {xs : List V}, Rls K N H h xs ds → inV x xs = ds.any fun e => Wl.eq1 e d
  | [], _, q => by cases q; rfl
  | e :: ds, _, q => by
    cases q with
    | cons a b =>
      have ih := Rls.in1 r b
      unfold inV at ih ⊢
      rw [List.any_cons, List.any_cons, a.eq1 r, ih]
end
def in1 (d : PyData) (ds : List PyData) : Bool := ds.any fun e => eq1 e d
@[simp] theorem in1_nil {d : PyData} : Wl.in1 d [] = false := rfl
@[simp] theorem in1_cons {d e : PyData} {es : List PyData} : Wl.in1 d (e :: es) = (Wl.eq1 e d || Wl.in1 d es) := rfl
@[simp] theorem in1_strs {u : Str} {ss : List Str} : Wl.in1 (.str u) (ss.map PyData.str) = decide (u ∈ ss) := by
  induction ss with
  | nil => rfl
  | cons a l ih =>
    rw [List.map_cons, in1_cons, ih]
    simp
@[simp] theorem in1_ints {u : Int} {ss : List Int} : Wl.in1 (.int u) (ss.map PyData.int) = decide (u ∈ ss) := by
  induction ss with
  | nil => rfl
  | cons a l ih =>
    rw [List.map_cons, in1_cons, ih]
    simp
@[simp] theorem flat_strs' {ss : List Str} : (ss.map PyData.str).all Wl.flat1 = true := by simp
@[simp] def fIn (neg : Bool) (d e : PyData) (h : Lh) (P : Wv) : Prop := ∃ ds, qv h e = some ds ∧ flat1 d = true ∧ ds.all flat1 = true ∧ P (.bool (if neg then !in1 d ds else in1 d ds)) h
instance (neg : Bool) : R2W K (rIn K neg) (fIn neg) := ⟨fun S a c ⟨ds, e, f1, f2, p⟩ k => by
  obtain ⟨q, xs, rfl, s, rs⟩ := c.qv S e
  refine ⟨q, xs, rfl, s, by rw [a.flat1]; exact f1, by rw [rs.flat1]; exact f2, ?_⟩
  have e1 : inV _ xs = in1 _ ds := Rls.in1 a rs
  rw [e1]
  exact k.at S (.bl _) p⟩
/-! subscripts -/
theorem atI_rl {N : Addr → Prop} {H : Hp} {h : Lh} {xs : List V} {ds : List PyData} {d : PyData} {i : Int} (r : Rls K N H h xs ds) (ha : atI ds i = some d) : ∃ v, atI xs i = some v ∧ Rl K N H h v d := by
  unfold atI at ha ⊢
  rw [r.length]
  cases e : ixN ds.length i with
  | none => rw [e] at ha; cases ha
  | some j =>
    rw [e] at ha
    exact r.getD ha
@[simp] def fIxT (d e : PyData) (h : Lh) (P : Wv) : Prop := ∃ ds i x, tv d = some ds ∧ e = .int i ∧ atI ds i = some x ∧ P x h
instance : R2W K (rIxT K) fIxT := ⟨fun S a c ⟨ds, i, x, e1, e2, e3, p⟩ k => by
  subst e2
  obtain ⟨q, xs, rfl, t, rs⟩ := a.tv e1
  obtain ⟨v, hv, r⟩ := atI_rl rs e3
  exact ⟨q, xs, i, v, rfl, c.i, t, hv, k.at S r p⟩⟩
@[simp] def fIxL (d e : PyData) (h : Lh) (P : Wv) : Prop := ∃ ds i x, lv h d = some ds ∧ e = .int i ∧ atI ds i = some x ∧ P x h
instance : R2W K (rIxL K) fIxL := ⟨fun S a c ⟨ds, i, x, e1, e2, e3, p⟩ k => by
  subst e2
  obtain ⟨q, xs, rfl, t, rs⟩ := a.lv S e1
  obtain ⟨v, hv, r⟩ := atI_rl rs e3
  exact ⟨q, xs, i, v, rfl, c.i, t, hv, k.at S r p⟩⟩
@[simp] def fIxS (d e : PyData) (h : Lh) (P : Wv) : Prop := ∃ z i c, d = .str z ∧ e = .int i ∧ z.length ≤ 100000 ∧ atI z.cps.toList i = some c ∧ P (.str ⟨#[c]⟩) h
instance : R2W K rIxS fIxS := ⟨fun S a c ⟨z, i, x, e1, e2, e3, e4, p⟩ k => by
  subst e1; subst e2
  exact ⟨z, i, x, a.s, c.i, sz_of e3, e4, k.at S (.str _) p⟩⟩
/-! slices -/
@[simp] def wNo : WO := fun _ h P => P none h
@[simp] def wPart (a : WE) : WO := fun ρ h P => a ρ h fun d h1 => ∃ i, d = .int i ∧ P (some i) h1
instance : RO K XX tNoPart wNo := ⟨fun S E p k => k _ _ _ (Tr.refl _ _) S p⟩
instance {ta : TE} {a : WE} [A : RE K XX ta a] : RO K XX (tPart ta) (wPart a) := ⟨fun S E p k => A.run S E p fun v d H1 h1 t1 S1 r1 ⟨i, e, p1⟩ => by
  subst e; exact ⟨i, r1.i, k _ _ _ t1 S1 p1⟩⟩
theorem Rls.cut {N : Addr → Prop} {H : Hp} {h : Lh} {xs : List V} {ds : List PyData} (r : Rls K N H h xs ds) (lo hi : Option Int) : Rls K N H h (cutV xs lo hi) (Pd.cutD ds lo hi) := by
  unfold cutV Pd.cutD
  rw [r.length]
  exact (r.drop _).take _
@[simp] def wSlT (a : WE) (l u : WO) : WE := fun ρ h P => a ρ h fun d h1 => l ρ h1 fun lo h2 => u ρ h2 fun hi h3 => ∃ ds, tv d = some ds ∧ P (.tuple (Pd.cutD ds lo hi)) h3
instance {ta : TE} {tl th : TO} {a : WE} {l u : WO} [A : RE K XX ta a] [L : RO K XX tl l] [U : RO K XX th u] : RE K XX (tSl (rSlA K) ta tl th) (wSlT a l u) := ⟨fun S E p k =>
  A.run S E p fun v d H1 h1 t1 S1 r1 p1 => L.run S1 (E.tr t1) p1 fun lo H2 h2 t2 S2 p2 => U.run S2 (E.tr (t1.trans t2)) p2 fun hi H3 h3 t3 S3 ⟨ds, e, p3⟩ => by
    have r3 := r1.tr (t2.trans t3)
    have t := (t1.trans t2).trans t3
    obtain ⟨q, xs, rfl, tt, rs⟩ : ∃ a xs, v = .ref a ∧ Tu K _ H3 h3 a xs ∧ Rls K _ H3 h3 xs ds := by
      unfold tv at e
      split at e
      · cases e; exact r3.t
      · cases e
    refine ⟨q, xs, rfl, tt.sq, fun z => ?_, fun _ r hr => (k.tr t).tup S3 hr (rs.cut lo hi) p3⟩
    rw [rs.length] at z
    rw [sIx_whole z ds rfl] at p3
    exact (k.tr t).at S3 (.tup tt rs) p3⟩
@[simp] def wSlL (a : WE) (l u : WO) : WA := fun ρ h P => a ρ h fun d h1 => l ρ h1 fun lo h2 => u ρ h2 fun hi h3 => ∃ ds, lv h3 d = some ds ∧ P (Pd.cutD ds lo hi) h3
instance {ta : TE} {tl th : TO} {a : WE} {l u : WO} [A : RE K XX ta a] [L : RO K XX tl l] [U : RO K XX th u] : RN K XX (tSl (rSlL K) ta tl th) (wSlL a l u) := ⟨fun S E p k =>
  A.run S E p fun v d H1 h1 t1 S1 r1 p1 => L.run S1 (E.tr t1) p1 fun lo H2 h2 t2 S2 p2 => U.run S2 (E.tr (t1.trans t2)) p2 fun hi H3 h3 t3 S3 ⟨ds, e, p3⟩ => by
    obtain ⟨q, xs, rfl, tt, rs⟩ := (r1.tr (t2.trans t3)).lv S3 e
    exact ⟨q, xs, rfl, tt, fun r hr => (k.tr ((t1.trans t2).trans t3)).new S3 hr (rs.cut lo hi) p3⟩⟩
@[simp] def wSlS (a : WE) (l u : WO) : WE := fun ρ h P => a ρ h fun d h1 => l ρ h1 fun lo h2 => u ρ h2 fun hi h3 => ∃ z, d = .str z ∧ z.length ≤ 100000 ∧ P (.str (cutS z lo hi)) h3
instance {ta : TE} {tl th : TO} {a : WE} {l u : WO} [A : RE K XX ta a] [L : RO K XX tl l] [U : RO K XX th u] : RE K XX (tSl rSlS ta tl th) (wSlS a l u) := ⟨fun S E p k =>
  A.run S E p fun v d H1 h1 t1 S1 r1 p1 => L.run S1 (E.tr t1) p1 fun lo H2 h2 t2 S2 p2 => U.run S2 (E.tr (t1.trans t2)) p2 fun hi H3 h3 t3 S3 ⟨z, e, e2, p3⟩ => by
    subst e
    exact ⟨z, r1.s, sz_of e2, (k.tr ((t1.trans t2).trans t3)).at S3 (.str _) p3⟩⟩
/-! + and * of lists and tuples -/
@[simp] def fCatT (d e : PyData) (h : Lh) (P : Wv) : Prop := ∃ ds es, tv d = some ds ∧ tv e = some es ∧ ds.length + es.length ≤ 100000 ∧ P (.tuple (ds ++ es)) h
instance : R2W K (rCatA K) fCatT := ⟨fun {XX N H h x y d e P Q} S a c ⟨ds, es, e1, e2, z, p⟩ k => by
  have T : ∀ {v : V} {d : PyData} {ds : List PyData}, Rl K N H h v d → tv d = some ds → ∃ a xs, v = .ref a ∧ Tu K N H h a xs ∧ Rls K N H h xs ds := fun r e => by
    unfold tv at e
    split at e
    · cases e; exact r.t
    · cases e
  obtain ⟨q, xs, rfl, t1, r1⟩ := T a e1
  obtain ⟨q', xs', rfl, t2, r2⟩ := T c e2
  refine ⟨q, q', xs, xs', rfl, rfl, t1.sq, t2.sq, sz_of (by rw [r1.length, r2.length]; exact z), fun w => ?_, fun _ w => ?_, fun _ _ r hr => k.tup S hr (r1.append r2) p⟩
  · subst w; cases r1; exact k.at S (.tup t2 r2) p
  · subst w; cases r2; rw [List.append_nil] at p; exact k.at S (.tup t1 r1) p⟩
@[simp] def fCat (d e : PyData) (h : Lh) (P : List PyData → Lh → Prop) : Prop := ∃ ds es, isSc d = false ∧ isSc e = false ∧ lv h d = some ds ∧ lv h e = some es ∧ ds.length + es.length ≤ 100000 ∧ P (ds ++ es) h
instance : R2N K rCat fCat := ⟨fun S a c ⟨ds, es, c1, c2, e1, e2, z, p⟩ k => by
  obtain ⟨q, xs, rfl, t1, r1⟩ := a.lvo S e1 c1
  obtain ⟨q', xs', rfl, t2, r2⟩ := c.lvo S e2 c2
  exact ⟨q, q', xs, xs', rfl, rfl, t1, t2, sz_of (by rw [r1.length, r2.length]; exact z), fun r hr => k.new S hr (r1.append r2) p⟩⟩
end
end Wl
set_option Elab.async false
set_option linter.all false
set_option maxRecDepth 100000
set_option maxHeartbeats 2000000
/-! Wc: tests, calls, statements, loops over the plain layer. -/
namespace Wl
open PySem PySem.Spec PyProof.Rows L2 Evl Pd
def wCond (b : Bool) (A B : Prop) : Prop := (b = true → A) ∧ (b = false → B)
@[simp] theorem wCond_t {A B : Prop} : wCond true A B = A := by simp [wCond]
@[simp] theorem wCond_f {A B : Prop} : wCond false A B = B := by simp [wCond]
@[simp] theorem wCond_same {b : Bool} {A : Prop} : wCond b A A = A := by cases b <;> simp
@[simp] theorem wCond_not {b : Bool} {A B : Prop} : wCond (!b) A B = wCond b B A := by cases b <;> simp
@[simp] theorem wCond_or {b c : Bool} {A B : Prop} : wCond b A (wCond c A B) = wCond (b || c) A B := by cases b <;> simp
@[simp] theorem wCond_and {b c : Bool} {A B : Prop} : wCond b (wCond c A B) B = wCond (b && c) A B := by cases b <;> simp
@[simp] theorem wCond_andP {b c : Bool} {P : Wv} {h : Lh} : wCond b (P (.bool c) h) (P (.bool false) h) = P (.bool (b && c)) h := by cases b <;> simp
@[simp] theorem wCond_orP {b c : Bool} {P : Wv} {h : Lh} : wCond b (P (.bool true) h) (P (.bool c) h) = P (.bool (b || c)) h := by cases b <;> simp
theorem wCond.i {b : Bool} {A B : Prop} (a : b = true → A) (c : b = false → B) : wCond b A B := ⟨a, c⟩
theorem wCond.p {p : Prop} [Decidable p] {A B : Prop} (a : p → A) (c : ¬ p → B) : wCond (decide p) A B := ⟨fun z => a (of_decide_eq_true z), fun z => c (of_decide_eq_false z)⟩
theorem wCond.t {A B : Prop} (a : A) : wCond true A B := ⟨fun _ => a, fun z => (by cases z)⟩
theorem wCond.f {A B : Prop} (a : B) : wCond false A B := ⟨fun z => (by cases z), fun _ => a⟩
theorem wCond.on {b : Bool} {A B : Prop} {A' B' : Prop} (c : wCond b A B) (f : A → A') (g : B → B') : if b = true then A' else B' := by
  cases b with
  | true => rw [if_pos rfl]; exact f (c.1 rfl)
  | false => rw [if_neg (by decide)]; exact g (c.2 rfl)
section
variable {K : PySem.W.Frag} {XX : XP}
def asB : PyData → (Bool → Prop) → Prop
  | .bool b, k => k b
  | _, _ => False
@[simp] theorem asB_bool {b : Bool} {k : Bool → Prop} : asB (.bool b) k = k b := rfl
theorem asB_ex {d : PyData} {k : Bool → Prop} (h : asB d k) : ∃ b, d = .bool b ∧ k b := by
  cases d <;> first | exact h.elim | exact ⟨_, rfl, h⟩
@[simp] def wTst (a : WE) : WT := fun ρ h P => a ρ h fun d h1 => asB d fun b => P b h1
instance {ta : TE} {a : WE} [A : RE K XX ta a] : RT K XX (tTest ta) (wTst a) := ⟨fun S E p k => A.run S E p fun v d H1 h1 t1 S1 r1 z => by
  obtain ⟨b, e, p1⟩ := asB_ex z
  subst e; exact ⟨b, r1.b, k _ _ _ t1 S1 p1⟩⟩
instance {ta : TE} {a : WE} [A : RE K XX ta a] : RT K XX (tB ta) (wTst a) := ⟨fun S E p k => A.run S E p fun v d H1 h1 t1 S1 r1 z => by
  obtain ⟨b, e, p1⟩ := asB_ex z
  subst e; exact ⟨b, r1.b, k _ _ _ t1 S1 p1⟩⟩
@[simp] def wAnd (a b : WT) : WT := fun ρ h P => a ρ h fun c h1 => wCond c (b ρ h1 P) (P false h1)
@[simp] def wOr (a b : WT) : WT := fun ρ h P => a ρ h fun c h1 => wCond c (P true h1) (b ρ h1 P)
@[simp] def wNot (a : WT) : WT := fun ρ h P => a ρ h fun c h1 => P (!c) h1
instance {ta tb : TT} {a b : WT} [A : RT K XX ta a] [B : RT K XX tb b] : RT K XX (tAnd ta tb) (wAnd a b) := ⟨fun S E p k => A.run S E p fun c H1 h1 t1 S1 p1 =>
  p1.on (fun q => B.run S1 (E.tr t1) q (k.tr t1)) fun q => k _ _ _ t1 S1 q⟩
instance {ta tb : TT} {a b : WT} [A : RT K XX ta a] [B : RT K XX tb b] : RT K XX (tOr ta tb) (wOr a b) := ⟨fun S E p k => A.run S E p fun c H1 h1 t1 S1 p1 =>
  p1.on (fun q => k _ _ _ t1 S1 q) fun q => B.run S1 (E.tr t1) q (k.tr t1)⟩
instance {ta : TT} {a : WT} [A : RT K XX ta a] : RT K XX (tNot ta) (wNot a) := ⟨fun S E p k => A.run S E p fun c H1 h1 t1 S1 p1 => k _ _ _ t1 S1 p1⟩
@[simp] def wYes : WT := fun _ h P => P true h
instance : RT K XX tYes wYes := ⟨fun S E p k => k _ _ _ (Tr.refl _ _) S p⟩
@[simp] def wAndV (a b : WE) : WE := fun ρ h P => a ρ h fun d h1 => asB d fun c => wCond c (b ρ h1 P) (P (.bool false) h1)
@[simp] def wOrV (a b : WE) : WE := fun ρ h P => a ρ h fun d h1 => asB d fun c => wCond c (P (.bool true) h1) (b ρ h1 P)
@[simp] def wNotV (a : WE) : WE := fun ρ h P => a ρ h fun d h1 => asB d fun c => P (.bool (!c)) h1
instance {ta tb : TE} {a b : WE} [A : RE K XX ta a] [B : RE K XX tb b] : RE K XX (tAndV ta tb) (wAndV a b) := ⟨fun S E p k => A.run S E p fun v d H1 h1 t1 S1 r1 z => by
  obtain ⟨c, e, p1⟩ := asB_ex z
  subst e; exact ⟨c, r1.b, p1.on (fun q => B.run S1 (E.tr t1) q (k.tr t1)) fun q => (k.tr t1).at S1 (.bl _) q⟩⟩
instance {ta tb : TE} {a b : WE} [A : RE K XX ta a] [B : RE K XX tb b] : RE K XX (tOrV ta tb) (wOrV a b) := ⟨fun S E p k => A.run S E p fun v d H1 h1 t1 S1 r1 z => by
  obtain ⟨c, e, p1⟩ := asB_ex z
  subst e; exact ⟨c, r1.b, p1.on (fun q => (k.tr t1).at S1 (.bl _) q) fun q => B.run S1 (E.tr t1) q (k.tr t1)⟩⟩
instance {ta : TE} {a : WE} [A : RE K XX ta a] : RE K XX (tNotV ta) (wNotV a) := ⟨fun S E p k => A.run S E p fun v d H1 h1 t1 S1 r1 z => by
  obtain ⟨c, e, p1⟩ := asB_ex z
  subst e; exact ⟨c, r1.b, (k.tr t1).at S1 (.bl _) p1⟩⟩
@[simp] def wIf (t : WT) (a b : WE) : WE := fun ρ h P => t ρ h fun c h1 => wCond c (a ρ h1 P) (b ρ h1 P)
instance {tt : TT} {ta tb : TE} {t : WT} {a b : WE} [T : RT K XX tt t] [A : RE K XX ta a] [B : RE K XX tb b] : RE K XX (tIf tt ta tb) (wIf t a b) := ⟨fun S E p k => T.run S E p fun c H1 h1 t1 S1 p1 =>
  p1.on (fun q => A.run S1 (E.tr t1) q (k.tr t1)) fun q => B.run S1 (E.tr t1) q (k.tr t1)⟩
@[simp] def wChain (g g' : Int → Int → Bool) (a b c : WE) : WE := fun ρ h P => a ρ h fun d h1 => b ρ h1 fun e h2 => ∃ i j, d = .int i ∧ e = .int j ∧ wCond (g i j) (c ρ h2 fun f h3 => ∃ k, f = .int k ∧ P (.bool (g' j k)) h3) (P (.bool false) h2)
instance (g g' : Int → Int → Bool) {ta tb tc : TE} {a b c : WE} [A : RE K XX ta a] [B : RE K XX tb b] [C : RE K XX tc c] : RE K XX (tChain (rI0 fun i j => .bl (g i j)) (rI0 fun i j => .bl (g' i j)) ta tb tc) (wChain g g' a b c) := ⟨fun S E p k =>
  A.run S E p fun v d H1 h1 t1 S1 r1 p1 => B.run S1 (E.tr t1) p1 fun w e H2 h2 t2 S2 r2 ⟨i, j, e1, e2, p2⟩ => by
    subst e1; subst e2
    refine ⟨i, j, r1.i, r2.i, g i j, rfl, p2.on (fun q => C.run S2 (E.tr (t1.trans t2)) q fun x f H3 h3 t3 S3 r3 ⟨n, e3, p3⟩ => ?_) fun q => (k.tr (t1.trans t2)).at S2 (.bl _) q⟩
    subst e3
    exact ⟨j, n, r2.i, r3.i, (k.tr ((t1.trans t2).trans t3)).at S3 (.bl _) p3⟩⟩
/-! ### built-ins -/
@[simp] def wCB (f : List PyData → Lh → Wv → Prop) (a : WA) : WE := fun ρ h P => a ρ h fun ds h1 => f ds h1 P
instance {r : List V → Hp → VK → Prop} {f : List PyData → Lh → Wv → Prop} {ta : TA} {a : WA} [A : RA K XX ta a] [R : RCW K r f] : RE K XX (tCB r ta) (wCB f a) := ⟨fun S E p k =>
  A.run S E p fun vs ds H1 h1 t1 S1 r1 p1 => R.run S1 r1 p1 (k.tr t1)⟩
@[simp] def wCN (f : List PyData → Lh → (List PyData → Lh → Prop) → Prop) (a : WA) : WA := fun ρ h P => a ρ h fun ds h1 => f ds h1 P
instance {r : List V → Hp → VK → Prop} {f : List PyData → Lh → (List PyData → Lh → Prop) → Prop} {ta : TA} {a : WA} [A : RA K XX ta a] [R : RCN K r f] : RN K XX (tCB r ta) (wCN f a) := ⟨fun S E p k =>
  A.run S E p fun vs ds H1 h1 t1 S1 r1 p1 => R.run S1 r1 p1 (k.tr t1)⟩
/-- the kind of a value -/
def tyH (h : Lh) : PyData → String
  | .dict [(.int i, .none)] => match h i.toNat with
    | some (.lst _) => "list"
    | some (.dK _) => "dict"
    | some (.dT _) => "dict"
    | _ => "?"
  | .none => "NoneType"
  | .bool _ => "bool"
  | .int _ => "int"
  | .str _ => "str"
  | .list _ => "list"
  | .tuple _ => "tuple"
  | .dict [(.none, .tuple _)] => "list"
  | .dict _ => "?"
@[simp] theorem tyH_none {h : Lh} : tyH h .none = "NoneType" := rfl
@[simp] theorem tyH_bool {h : Lh} {b : Bool} : tyH h (.bool b) = "bool" := rfl
@[simp] theorem tyH_int {h : Lh} {b : Int} : tyH h (.int b) = "int" := rfl
@[simp] theorem tyH_str {h : Lh} {b : Str} : tyH h (.str b) = "str" := rfl
@[simp] theorem tyH_list {h : Lh} {b : List PyData} : tyH h (.list b) = "list" := rfl
@[simp] theorem tyH_tuple {h : Lh} {b : List PyData} : tyH h (.tuple b) = "tuple" := rfl
@[simp] theorem tyH_rf {h : Lh} {p : Addr} : tyH h (.dict [(.int ((p : Nat) : Int), .none)]) = match h p with | some (.lst _) => "list" | some (.dK _) => "dict" | some (.dT _) => "dict" | _ => "?" := by simp only [tyH, Int.toNat_natCast]
theorem Rl.ty {N : Addr → Prop} {H : Hp} {h : Lh} {v : V} {d : PyData} (S : Sx K XX N H h) (r : Rl K N H h v d) (e : tyH h d ≠ "?") : TyX K H v (.type (tyH h d)) := by
  cases r with
  | non => exact .base .non
  | bl b => exact .base (.bl b)
  | int i => exact .base (.int i)
  | str s => exact .base (.str s)
  | lst h1 _ => exact .base (.lst h1.1)
  | tup h1 _ =>
    rcases h1 with h1 | ⟨o, its, n, e1, e2, _⟩
    · exact .base (.tup h1.1)
    · exact .kTuple e1 e2
  | rf a =>
    simp only [tyH, Int.toNat_natCast] at e ⊢
    cases q : h a with
    | none => rw [q] at e; exact absurd rfl e
    | some o =>
      obtain ⟨n, u, z, k⟩ := S.at_ a o q
      cases k with
      | lst k => exact .base (.lst z)
      | dK k => exact .base (.dK z)
      | dT k => exact .base (.dT z)
      | ins k => rw [q] at e; exact absurd rfl e
  | scr ns c =>
    rcases c with ⟨c | ⟨o, c⟩, _⟩ | ⟨o, its, n, e1, e2, _⟩
    · exact .base (.lst c)
    · exact .base (.frz c)
    · exact .kList e1 e2
@[simp] def wIsi (T : String) (a : WE) : WE := fun ρ h P => a ρ h fun d h1 => tyH h1 d ≠ "?" ∧ onB (kitB (tyH h1 d) T) fun b => P (.bool b) h1
instance (priority := high) {ta : TE} {a : WE} {T : String} [A : RE K XX ta a] : RE K XX (tCB (rIsi K) (tCons ta (tCons (tC (.ty T)) tNil))) (wIsi T a) := ⟨fun S E p k =>
  A.run S E p fun v d H1 h1 t1 S1 r1 ⟨e0, z⟩ => by
  obtain ⟨b, e, p1⟩ := onB_ex z
  exact ⟨v, .ty T, .type (tyH h1 d), .type T, b, rfl, .ty T, r1.ty S1 e0, kit_ty e, (k.tr t1).at S1 (.bl _) p1⟩⟩
@[simp] def fLenS (ds : List PyData) (h : Lh) (P : Wv) : Prop := ∃ z, ds = [.str z] ∧ z.length ≤ 100000 ∧ P (.int z.length) h
instance : RCW K (fun xs H Q => ∃ z, xs = [.str z] ∧ z.length ≤ sizeLine ∧ Q (.int z.length) H) fLenS := ⟨fun S r ⟨z, e, e2, p⟩ k => by
  subst e; obtain ⟨v, rfl, i⟩ := r.one; rw [i.s]; exact ⟨z, rfl, sz_of e2, k.at S (.int _) p⟩⟩
@[simp] def fLen (ds : List PyData) (h : Lh) (P : Wv) : Prop := ∃ d es, ds = [d] ∧ qv h d = some es ∧ P (.int (es.length : Nat)) h
instance : RCW K (rLenS K) fLen := ⟨fun S r ⟨d, es, e, e2, p⟩ k => by
  subst e; obtain ⟨v, rfl, i⟩ := r.one
  obtain ⟨a, xs, rfl, t, rs⟩ := i.qv S e2
  exact ⟨a, xs, rfl, t, by rw [rs.length]; exact k.at S (.int _) p⟩⟩
@[simp] def boolL : List PyData → Option (List Bool)
  | [] => some []
  | .bool b :: ds => (boolL ds).map (b :: ·)
  | _ => none
theorem boolL_eq : ∀ {ds : List PyData} {bs : List Bool}, boolL ds = some bs → ds = bs.map .bool
  | [], _, h => by cases h; rfl
  | .bool b :: ds, bs, h => by
    unfold boolL at h
    obtain ⟨cs, hc, rfl⟩ := Option.map_eq_some_iff.mp h
    rw [boolL_eq hc]; rfl
  | .none :: _, _, h => by cases h
  | .int _ :: _, _, h => by cases h
  | .str _ :: _, _, h => by cases h
  | .list _ :: _, _, h => by cases h
  | .tuple _ :: _, _, h => by cases h
  | .dict _ :: _, _, h => by cases h
@[simp] theorem boolL_map (bs : List Bool) : boolL (bs.map .bool) = some bs := by
  induction bs with
  | nil => rfl
  | cons b bs ih => simp [boolL, ih]
theorem boolL_mapF {α : Type} (l : List α) (f : α → Bool) : boolL (l.map fun a => PyData.bool (f a)) = some (l.map f) := by
  have := boolL_map (l.map f)
  rw [List.map_map] at this
  exact this
@[simp] def fAll (ds : List PyData) (h : Lh) (P : Wv) : Prop := ∃ d es bs, ds = [d] ∧ lv h d = some es ∧ boolL es = some bs ∧ P (.bool (bs.all id)) h
@[simp] def fAny (ds : List PyData) (h : Lh) (P : Wv) : Prop := ∃ d es bs, ds = [d] ∧ lv h d = some es ∧ boolL es = some bs ∧ P (.bool (bs.any id)) h
instance : RCW K (L2.rAll K) fAll := ⟨fun S r ⟨d, es, bs, e, e2, e3, p⟩ k => by
  subst e; obtain ⟨v, rfl, i⟩ := r.one
  obtain ⟨a, xs, rfl, t, rs⟩ := i.lv S e2
  rw [boolL_eq e3] at rs
  have := rs.bls; subst this
  exact ⟨a, bs, rfl, t, k.at S (.bl _) p⟩⟩
instance : RCW K (L2.rAny K) fAny := ⟨fun S r ⟨d, es, bs, e, e2, e3, p⟩ k => by
  subst e; obtain ⟨v, rfl, i⟩ := r.one
  obtain ⟨a, xs, rfl, t, rs⟩ := i.lv S e2
  rw [boolL_eq e3] at rs
  have := rs.bls; subst this
  exact ⟨a, bs, rfl, t, k.at S (.bl _) p⟩⟩
@[simp] def fTupOf (ds : List PyData) (h : Lh) (P : Wv) : Prop := ∃ d es, ds = [d] ∧ qv h d = some es ∧ P (.tuple es) h
instance : RCW K (rTupOf K) fTupOf := ⟨fun {XX N H h xs ds P Q} S r ⟨d, es, e, e2, p⟩ k => by
  subst e; obtain ⟨v, rfl, i⟩ := r.one
  unfold qv at e2
  cases q : tv d with
  | some es' =>
    rw [q] at e2; cases e2
    unfold tv at q
    split at q
    · cases q
      obtain ⟨a, xs, rfl, t, rs⟩ := i.t
      exact ⟨a, xs, rfl, .inr ⟨t.sq, k.at S (.tup t rs) p⟩⟩
    · cases q
  | none =>
    rw [q] at e2
    obtain ⟨a, xs, rfl, t, rs⟩ := i.lv S e2
    exact ⟨a, xs, rfl, .inl ⟨t, fun l hl => k.tup S hl rs p⟩⟩⟩
@[simp] def fLstOf (ds : List PyData) (h : Lh) (P : List PyData → Lh → Prop) : Prop := ∃ d es, ds = [d] ∧ qv h d = some es ∧ P es h
instance : RCN K (rLstOf K) fLstOf := ⟨fun S r ⟨d, es, e, e2, p⟩ k => by
  subst e; obtain ⟨v, rfl, i⟩ := r.one
  obtain ⟨a, xs, rfl, t, rs⟩ := i.qv S e2
  exact ⟨a, xs, rfl, t, fun l hl => k.new S hl rs p⟩⟩
@[simp] def fAbs (ds : List PyData) (h : Lh) (P : Wv) : Prop := ∃ i, ds = [.int i] ∧ P (.int (if i < 0 then -i else i)) h
instance : RCW K (fun xs H Q => ∃ i, xs = [.int i] ∧ Q (.int (if i < 0 then -i else i)) H) fAbs := ⟨fun S r ⟨i, e, p⟩ k => by
  subst e; obtain ⟨v, rfl, iv⟩ := r.one; rw [iv.i]; exact ⟨i, rfl, k.at S (.int _) p⟩⟩
@[simp] def fMax2 (ds : List PyData) (h : Lh) (P : Wv) : Prop := ∃ i j, ds = [.int i, .int j] ∧ P (.int (if j > i then j else i)) h
instance : RCW K (fun xs H Q => ∃ i j, xs = [.int i, .int j] ∧ Q (.int (if j > i then j else i)) H) fMax2 := ⟨fun S r ⟨i, j, e, p⟩ k => by
  subst e; obtain ⟨v, w, rfl, iv, iw⟩ := r.two; rw [iv.i, iw.i]; exact ⟨i, j, rfl, k.at S (.int _) p⟩⟩
@[simp] def fNeg (d : PyData) (h : Lh) (P : Wv) : Prop := ∃ i, d = .int i ∧ P (.int (-i)) h
instance : R1W K (rU fun i => .int (-i)) fNeg := ⟨fun S r ⟨i, e, p⟩ k => by
  subst e; exact ⟨i, r.i, k.at S (.int _) p⟩⟩
@[simp] def fInt1 (ds : List PyData) (h : Lh) (P : Wv) : Prop := (∃ i, ds = [.int i] ∧ P (.int i) h) ∨ ∃ b, ds = [.bool b] ∧ P (.int (if b then 1 else 0)) h
instance : RCW K (fun xs H Q => (∃ i, xs = [.int i] ∧ Q (.int i) H) ∨ ∃ k, xs = [.bl k] ∧ Q (.int (if k then 1 else 0)) H) fInt1 := ⟨fun S r p k => by
  rcases p with ⟨i, e, p⟩ | ⟨b, e, p⟩
  · subst e; obtain ⟨v, rfl, iv⟩ := r.one; rw [iv.i]; exact .inl ⟨i, rfl, k.at S (.int _) p⟩
  · subst e; obtain ⟨v, rfl, iv⟩ := r.one; rw [iv.b]; exact .inr ⟨b, rfl, k.at S (.int _) p⟩⟩
/-! ### own defs -/
/-- a def's promise; exceptions: the class and the fields -/
def SpX (K : PySem.W.Frag) (D : List PyData → Lh → Wv → (Addr → List (Str × PyData) → Lh → Prop) → Prop) : Sp := fun vs H Q E => ∃ (N : Addr → Prop) (h : Lh) (ds : List PyData) (P : Wv) (X : Addr → List (Str × PyData) → Lh → Prop),
  Sx K ⟨fun _ => E, fun _ => X⟩ N H h ∧ Rls K N H h vs ds ∧ D ds h P X ∧ Ko K ⟨fun _ => E, fun _ => X⟩ N H h P Q
abbrev DX := List PyData → Lh → Wv → (Addr → List (Str × PyData) → Lh → Prop) → Prop
/-- .. that lets none out -/
abbrev SpW (K : PySem.W.Frag) (D : List PyData → Lh → Wv → Prop) : Sp := SpX K fun ds h P _ => D ds h P
theorem SpX.len {D : DX} {n : Nat} (f : ∀ ds h P X, D ds h P X → ds.length = n) : ∀ vs H Q E, SpX K D vs H Q E → vs.length = n := fun vs H Q E ⟨_, _, _, _, _, _, r, d, _⟩ => by rw [r.length]; exact f _ _ _ _ d
theorem SpW.len {D : List PyData → Lh → Wv → Prop} {n : Nat} (f : ∀ ds h P, D ds h P → ds.length = n) : ∀ vs H Q E, SpW K D vs H Q E → vs.length = n := SpX.len fun ds h P _ => f ds h P
section
variable {N : Addr → Prop} {H H' : Hp} {h h' : Lh}
/-- a call: in the callee other exceptions may go elsewhere -/
theorem Ko.in {E : XK} {X : Addr → List (Str × PyData) → Lh → Prop} {P : Wv} {Q : VK} (S : Sx K XX N H h) (k : Ko K XX N H h P Q) : Ko K ⟨fun _ => E, fun _ => X⟩ N H h P Q := fun v d H' h' t S' r p => k v d H' h' t (S.to t S'.toSim) r p
theorem Sx.noX {E : XK} (S : Sim K N H h) : Sx K ⟨fun _ => E, fun _ _ _ _ => False⟩ N H h := ⟨S, fun _ _ _ _ _ _ _ _ _ _ _ z => z.elim⟩
theorem Sx.call {σ : L2.St} {ρ : Ev'} {E0 : L2.St → XK} {X0 : Ev' → Addr → List (Str × PyData) → Lh → Prop} (S : Sx K ⟨E0, X0⟩ N H h) (e : En K N H h σ ρ) : Sx K ⟨fun _ => E0 σ, fun _ => X0 ρ⟩ N H h := ⟨S.toSim, fun _ _ C d fs H' h' t S' _ x p => S.x σ ρ C d fs H' h' t S' (e.tr t) x p⟩
end
@[simp] def wCall (D : DX) (X : Ev' → Addr → List (Str × PyData) → Lh → Prop) (a : WA) : WE := fun ρ h P => a ρ h fun ds h1 => D ds h1 P (X ρ)
/-- of a def that lets none out -/
@[simp] def wCallW (D : List PyData → Lh → Wv → Prop) (a : WA) : WE := fun ρ h P => a ρ h fun ds h1 => D ds h1 P
instance (priority := high) {D : List PyData → Lh → Wv → Prop} {E : XK} {ta : TA} {a : WA} [A : RA K XX ta a] : RE K XX (tCall (SpX K fun ds h P _ => D ds h P) [] E ta) (wCallW D a) := ⟨fun {N σ H ρ h P Q} S E0 p k =>
  A.run S E0 p fun vs ds H1 h1 t1 S1 r1 p1 => ⟨N, h1, ds, P, _, Sx.noX S1.toSim, by rw [List.append_nil]; exact r1, p1, (k.tr t1).in S1⟩⟩
instance (priority := high) {D : List PyData → Lh → Wv → Prop} {E : L2.St → XK} {ta : TA} {a : WA} [A : RA K XX ta a] : RE K XX (tCallS (SpX K fun ds h P _ => D ds h P) E ta) (wCallW D a) := ⟨fun {N σ H ρ h P Q} S E0 p k =>
  A.run S E0 p fun vs ds H1 h1 t1 S1 r1 p1 => ⟨N, h1, ds, P, _, Sx.noX S1.toSim, r1, p1, (k.tr t1).in S1⟩⟩
instance {D : DX} {E : XK} {X : Ev' → Addr → List (Str × PyData) → Lh → Prop} {ta : TA} {a : WA} [A : RA K ⟨fun _ => E, X⟩ ta a] : RE K ⟨fun _ => E, X⟩ (tCall (SpX K D) [] E ta) (wCall D X a) := ⟨fun {N σ H ρ h P Q} S E0 p k =>
  A.run S E0 p fun vs ds H1 h1 t1 S1 r1 p1 => ⟨N, h1, ds, P, X ρ, S1.call (E0.tr t1), by rw [List.append_nil]; exact r1, p1, (k.tr t1).in S1⟩⟩
instance {D : DX} {E : L2.St → XK} {X : Ev' → Addr → List (Str × PyData) → Lh → Prop} {ta : TA} {a : WA} [A : RA K ⟨E, X⟩ ta a] : RE K ⟨E, X⟩ (tCallS (SpX K D) E ta) (wCall D X a) := ⟨fun {N σ H ρ h P Q} S E0 p k =>
  A.run S E0 p fun vs ds H1 h1 t1 S1 r1 p1 => ⟨N, h1, ds, P, X ρ, S1.call (E0.tr t1), r1, p1, (k.tr t1).in S1⟩⟩
@[simp] def wCallN (n m : Nat) (D : DX) (X : Ev' → Addr → List (Str × PyData) → Lh → Prop) (a b : WA) : WE := fun ρ h P => a ρ h fun ds h1 => b ρ h1 fun es h2 => ds.length = n ∧ es.length = m ∧ D (ds ++ es) h2 P (X ρ)
@[simp] def wCallNW (n m : Nat) (D : List PyData → Lh → Wv → Prop) (a b : WA) : WE := fun ρ h P => a ρ h fun ds h1 => b ρ h1 fun es h2 => ds.length = n ∧ es.length = m ∧ D (ds ++ es) h2 P
instance (priority := high) {D : List PyData → Lh → Wv → Prop} {E : XK} {ta tb : TA} {a b : WA} {n m : Nat} [A : RA K XX ta a] [B : RA K XX tb b] : RE K XX (tCallN n m (SpX K fun ds h P _ => D ds h P) (fun vs zs => vs ++ zs) E ta tb) (wCallNW n m D a b) := ⟨fun {N σ H ρ h P Q} S E0 p k =>
  A.run S E0 p fun vs ds H1 h1 t1 S1 r1 p1 => B.run S1 (E0.tr t1) p1 fun ws es H2 h2 t2 S2 r2 ⟨l1, l2, p2⟩ => ⟨by rw [r1.length]; exact l1, by rw [r2.length]; exact l2, N, h2, ds ++ es, P, _, Sx.noX S2.toSim, (r1.tr t2).append r2, p2, (k.tr (t1.trans t2)).in S2⟩⟩
instance (priority := high) {D : List PyData → Lh → Wv → Prop} {E : L2.St → XK} {ta tb : TA} {a b : WA} {n m : Nat} [A : RA K XX ta a] [B : RA K XX tb b] : RE K XX (tCallNS n m (SpX K fun ds h P _ => D ds h P) E ta tb) (wCallNW n m D a b) := ⟨fun {N σ H ρ h P Q} S E0 p k =>
  A.run S E0 p fun vs ds H1 h1 t1 S1 r1 p1 => B.run S1 (E0.tr t1) p1 fun ws es H2 h2 t2 S2 r2 ⟨l1, l2, p2⟩ => ⟨by rw [r1.length]; exact l1, by rw [r2.length]; exact l2, N, h2, ds ++ es, P, _, Sx.noX S2.toSim, (r1.tr t2).append r2, p2, (k.tr (t1.trans t2)).in S2⟩⟩
instance {D : DX} {E : XK} {X : Ev' → Addr → List (Str × PyData) → Lh → Prop} {ta tb : TA} {a b : WA} {n m : Nat} [A : RA K ⟨fun _ => E, X⟩ ta a] [B : RA K ⟨fun _ => E, X⟩ tb b] : RE K ⟨fun _ => E, X⟩ (tCallN n m (SpX K D) (fun vs zs => vs ++ zs) E ta tb) (wCallN n m D X a b) := ⟨fun {N σ H ρ h P Q} S E0 p k =>
  A.run S E0 p fun vs ds H1 h1 t1 S1 r1 p1 => B.run S1 (E0.tr t1) p1 fun ws es H2 h2 t2 S2 r2 ⟨l1, l2, p2⟩ => ⟨by rw [r1.length]; exact l1, by rw [r2.length]; exact l2, N, h2, ds ++ es, P, X ρ, S2.call (E0.tr (t1.trans t2)), (r1.tr t2).append r2, p2, (k.tr (t1.trans t2)).in S2⟩⟩
instance {D : DX} {E : L2.St → XK} {X : Ev' → Addr → List (Str × PyData) → Lh → Prop} {ta tb : TA} {a b : WA} {n m : Nat} [A : RA K ⟨E, X⟩ ta a] [B : RA K ⟨E, X⟩ tb b] : RE K ⟨E, X⟩ (tCallNS n m (SpX K D) E ta tb) (wCallN n m D X a b) := ⟨fun {N σ H ρ h P Q} S E0 p k =>
  A.run S E0 p fun vs ds H1 h1 t1 S1 r1 p1 => B.run S1 (E0.tr t1) p1 fun ws es H2 h2 t2 S2 r2 ⟨l1, l2, p2⟩ => ⟨by rw [r1.length]; exact l1, by rw [r2.length]; exact l2, N, h2, ds ++ es, P, X ρ, S2.call (E0.tr (t1.trans t2)), (r1.tr t2).append r2, p2, (k.tr (t1.trans t2)).in S2⟩⟩
/-- an attribute -/
def lkD (f : Str) (fs : List (Str × PyData)) : Option PyData := fs.lookup f
@[simp] theorem lkD_nil {f : Str} : lkD f [] = none := rfl
@[simp] theorem lkD_cons {f g : Str} {v : PyData} {r : List (Str × PyData)} : lkD f ((g, v) :: r) = if f = g then some v else lkD f r := by
  unfold lkD
  by_cases h : f = g
  · subst h; simp [List.lookup]
  · rw [if_neg h]
    have : (f == g) = false := beq_eq_false_iff_ne.mpr h
    simp only [List.lookup, this]
@[simp] def wMeth (C : Addr) (m : Str) (D : DX) (X : Ev' → Addr → List (Str × PyData) → Lh → Prop) (a : WE) (b : WA) : WE := fun ρ h P => a ρ h fun d h1 => ∃ p fs, d = rf p ∧ h1 p = some (.ins C fs) ∧ lkD m fs = none ∧ b ρ h1 fun ds h2 => D (d :: ds) h2 P (X ρ)
@[simp] def wMethW (C : Addr) (m : Str) (D : List PyData → Lh → Wv → Prop) (a : WE) (b : WA) : WE := fun ρ h P => a ρ h fun d h1 => ∃ p fs, d = rf p ∧ h1 p = some (.ins C fs) ∧ lkD m fs = none ∧ b ρ h1 fun ds h2 => D (d :: ds) h2 P
instance (priority := high) {D : List PyData → Lh → Wv → Prop} {C : Addr} {m : Str} {E : XK} {ta : TE} {tb : TA} {a : WE} {b : WA} [A : RE K XX ta a] [B : RA K XX tb b] : RE K XX (tMeth C m (SpX K fun ds h P _ => D ds h P) [] E ta tb) (wMethW C m D a b) := ⟨fun {N σ H ρ h P Q} S E0 p k =>
  A.run S E0 p fun v d H1 h1 t1 S1 r1 ⟨q, fs, e, e2, e3, p1⟩ => by
    obtain ⟨dx, xs, z, pr⟩ := Rl.insH S1 e2
    have ev := r1.r (a := q) (by rw [e]; exact asR_rf q)
    refine ⟨q, dx, xs, ev, z, (Paired.lookup pr).1 e3, B.run S1 (E0.tr t1) p1 fun vs ds H2 h2 t2 S2 r2 p2 => ⟨N, h2, d :: ds, P, _, Sx.noX S2.toSim, ?_, p2, (k.tr (t1.trans t2)).in S2⟩⟩
    rw [List.append_nil]; exact .cons (r1.tr t2) r2⟩
instance {D : DX} {C : Addr} {m : Str} {E : XK} {X : Ev' → Addr → List (Str × PyData) → Lh → Prop} {ta : TE} {tb : TA} {a : WE} {b : WA} [A : RE K ⟨fun _ => E, X⟩ ta a] [B : RA K ⟨fun _ => E, X⟩ tb b] : RE K ⟨fun _ => E, X⟩ (tMeth C m (SpX K D) [] E ta tb) (wMeth C m D X a b) := ⟨fun {N σ H ρ h P Q} S E0 p k =>
  A.run S E0 p fun v d H1 h1 t1 S1 r1 ⟨q, fs, e, e2, e3, p1⟩ => by
    obtain ⟨dx, xs, z, pr⟩ := Rl.insH S1 e2
    have ev := r1.r (a := q) (by rw [e]; exact asR_rf q)
    refine ⟨q, dx, xs, ev, z, (Paired.lookup pr).1 e3, B.run S1 (E0.tr t1) p1 fun vs ds H2 h2 t2 S2 r2 p2 => ⟨N, h2, d :: ds, P, X ρ, S2.call (E0.tr (t1.trans t2)), ?_, p2, (k.tr (t1.trans t2)).in S2⟩⟩
    rw [List.append_nil]; exact .cons (r1.tr t2) r2⟩
/-- a new instance -/
@[simp] def wMake (C : Addr) (D : DX) (X : Ev' → Addr → List (Str × PyData) → Lh → Prop) (a : WA) : WE := fun ρ h P => a ρ h fun ds h1 => ∀ x, h1 x = none → D (rf x :: ds) (up h1 x (.ins C [])) (fun d h2 => d = .none ∧ P (rf x) h2) (X ρ)
@[simp] def wMakeW (C : Addr) (D : List PyData → Lh → Wv → Prop) (a : WA) : WE := fun ρ h P => a ρ h fun ds h1 => ∀ x, h1 x = none → D (rf x :: ds) (up h1 x (.ins C [])) (fun d h2 => d = .none ∧ P (rf x) h2)
theorem make_sim {N : Addr → Prop} {H1 : Hp} {h1 : Lh} {x dx C : Addr} (S1 : Sim K N H1 h1) (hx : H1 x = none) (hdx : H1 dx = none) (ne : dx ≠ x) : Tr H1 h1 (L2.upd (L2.upd H1 dx (.own x)) x (.ins C dx [])) (up h1 x (.ins C [])) ∧ Sim K N (L2.upd (L2.upd H1 dx (.own x)) x (.ins C dx [])) (up h1 x (.ins C [])) := by
  have hx' : L2.upd H1 dx (.own x) x = none := by rw [upd_ne (Ne.symm ne)]; exact hx
  have S2 := S1.new (v := .own x) hdx
  have t2 : Tr H1 h1 (L2.upd H1 dx (.own x)) h1 := Tr.new hdx
  exact ⟨t2.trans (Tr.put (.inl hx')), S2.put (p := x) (v := .ins C dx []) (l := .ins C []) (.inl hx') (.ins .nil)⟩
instance (priority := high) {D : List PyData → Lh → Wv → Prop} {C : Addr} {E : XK} {ta : TA} {a : WA} [A : RA K XX ta a] : RE K XX (tMake C (SpX K fun ds h P _ => D ds h P) [] E ta) (wMakeW C D a) := ⟨fun {N σ H ρ h P Q} S E0 p k =>
  A.run S E0 p fun vs ds H1 h1 t1 S1 r1 p1 x dx hx hdx ne => by
    obtain ⟨t3, S3⟩ := make_sim (C := C) S1.toSim hx hdx ne
    refine ⟨N, _, rf x :: ds, _, _, Sx.noX S3, ?_, p1 x (S1.hn hx), fun v d H4 h4 t4 S4 r4 ⟨e, p4⟩ => ?_⟩
    · rw [List.append_nil]; exact .cons (.rf x) (r1.tr t3)
    · subst e
      exact ⟨r4.n, (k.tr ((t1.trans t3).trans t4)).at (S1.to (t3.trans t4) S4.toSim) (.rf x) p4⟩⟩
instance {D : DX} {C : Addr} {E : XK} {X : Ev' → Addr → List (Str × PyData) → Lh → Prop} {ta : TA} {a : WA} [A : RA K ⟨fun _ => E, X⟩ ta a] : RE K ⟨fun _ => E, X⟩ (tMake C (SpX K D) [] E ta) (wMake C D X a) := ⟨fun {N σ H ρ h P Q} S E0 p k =>
  A.run S E0 p fun vs ds H1 h1 t1 S1 r1 p1 x dx hx hdx ne => by
    obtain ⟨t3, S3⟩ := make_sim (C := C) S1.toSim hx hdx ne
    refine ⟨N, _, rf x :: ds, _, X ρ, (S1.to t3 S3).call (E0.tr (t1.trans t3)), ?_, p1 x (S1.hn hx), fun v d H4 h4 t4 S4 r4 ⟨e, p4⟩ => ?_⟩
    · rw [List.append_nil]; exact .cons (.rf x) (r1.tr t3)
    · subst e
      exact ⟨r4.n, (k.tr ((t1.trans t3).trans t4)).at (S1.to (t3.trans t4) S4.toSim) (.rf x) p4⟩⟩
/-- e.f -/
@[simp] def wFld (K : PySem.W.Frag) (a : WE) (f : Str) : WE := fun ρ h P => a ρ h fun d h1 => ∃ p C fs v, d = rf p ∧ h1 p = some (.ins C fs) ∧ Cls K C ∧ NoAttr K C f ∧ lkD f fs = some v ∧ P v h1
instance {ta : TE} {a : WE} {f : Str} [A : RE K XX ta a] : RE K XX (tFld K ta f) (wFld K a f) := ⟨fun {N σ H ρ h P Q} S E p k =>
  A.run S E p fun v d H1 h1 t1 S1 r1 ⟨q, C, fs, y, e, e2, c1, c2, e3, p1⟩ => by
    obtain ⟨dx, xs, z, pr⟩ := Rl.insH S1 e2
    obtain ⟨w, hw, rw'⟩ := (Paired.lookup pr).2 y e3
    exact ⟨q, C, dx, xs, w, r1.r (a := q) (by rw [e]; exact asR_rf q), z, c1, c2, hw, (k.tr t1).at S1 rw' p1⟩⟩
/-! ### methods of lists -/
class RMW (K : PySem.W.Frag) (r : V → List V → Hp → VK → Prop) (f : outParam (PyData → List PyData → Lh → Wv → Prop)) : Prop where
  run : ∀ {XX : XP} {N : Addr → Prop} {H : Hp} {h : Lh} {x : V} {xs : List V} {d : PyData} {ds : List PyData} {P : Wv} {Q : VK}, Sx K XX N H h → Rl K N H h x d → Rls K N H h xs ds → f d ds h P → Ko K XX N H h P Q → r x xs H Q
@[simp] def wBM (f : PyData → List PyData → Lh → Wv → Prop) (a : WE) (b : WA) : WE := fun ρ h P => a ρ h fun d h1 => (∃ ds, lv h1 d = some ds) ∧ b ρ h1 fun es h2 => f d es h2 P
instance {r : V → List V → Hp → VK → Prop} {f : PyData → List PyData → Lh → Wv → Prop} {ta : TE} {tb : TA} {a : WE} {b : WA} [A : RE K XX ta a] [B : RA K XX tb b] [R : RMW K r f] : RE K XX (tBM K "list" r ta tb) (wBM f a b) := ⟨fun S E p k =>
  A.run S E p fun v d H1 h1 t1 S1 r1 ⟨⟨ds, e⟩, p1⟩ => ⟨by
    obtain ⟨q, xs, rfl, t, _⟩ := r1.lv S1 e
    exact .inl ⟨rfl, xs, t⟩, B.run S1 (E.tr t1) p1 fun vs es H2 h2 t2 S2 r2 p2 => R.run S2 (r1.tr t2) r2 p2 (k.tr (t1.trans t2))⟩⟩
instance {r : V → List V → Hp → VK → Prop} {f : PyData → List PyData → Lh → Wv → Prop} {ta : TE} {a : WE} [A : RE K XX ta a] [R : RMW K r f] : RE K XX (tBM0 K "list" r ta) (wBM f a wNil) := ⟨fun S E p k =>
  A.run S E p fun v d H1 h1 t1 S1 r1 ⟨⟨ds, e⟩, p1⟩ => ⟨by
    obtain ⟨q, xs, rfl, t, _⟩ := r1.lv S1 e
    exact .inl ⟨rfl, xs, t⟩, R.run S1 r1 .nil p1 (k.tr t1)⟩⟩
@[simp] def fApp (d : PyData) (es : List PyData) (h : Lh) (P : Wv) : Prop := ∃ p ds e, d = rf p ∧ es = [e] ∧ h p = some (.lst ds) ∧ ds.length < 100000 ∧ P .none (up h p (.lst (ds ++ [e])))
theorem lst_put {N : Addr → Prop} {H : Hp} {h : Lh} {p : Addr} {ds es : List PyData} {ys : List V} {P : Wv} {Q : VK} {v : V} {d : PyData} (S : Sx K XX N H h) (e : h p = some (.lst ds)) (r : Rls K N H h ys es) (rv : Rl K N H h v d) (k : Ko K XX N H h P Q) (q : P d (up h p (.lst es))) : Q v (L2.upd H p (.lst ys)) := by
  have hp : H p = none ∨ h p ≠ none := .inr (by rw [e]; intro z; cases z)
  have t : Tr H h (L2.upd H p (.lst ys)) (up h p (.lst es)) := Tr.put hp
  exact (k.tr t).at (S.put hp (.lst r)) (rv.tr t) q
instance : RMW K rAppend fApp := ⟨fun S rx rs ⟨p, ds, e, e1, e2, e3, l, q⟩ k => by
  subst e2
  obtain ⟨w, rfl, rw'⟩ := rs.one
  obtain ⟨xs, z, r⟩ := Rl.lvH S e3
  exact ⟨p, xs, w, rx.r (a := p) (by rw [e1]; exact asR_rf p), rfl, z, sz_lt (by rw [r.length]; exact l), lst_put S e3 (r.append (.cons rw' .nil)) .non k q⟩⟩
theorem dropLast_rl {N : Addr → Prop} {H : Hp} {h : Lh} {xs : List V} {ds : List PyData} (r : Rls K N H h xs ds) : Rls K N H h xs.dropLast ds.dropLast := by
  rw [List.dropLast_eq_take, List.dropLast_eq_take, r.length]; exact r.take _
@[simp] def fPop (d : PyData) (es : List PyData) (h : Lh) (P : Wv) : Prop := ∃ p ds e, d = rf p ∧ es = [] ∧ h p = some (.lst ds) ∧ ds[ds.length - 1]? = some e ∧ P e (up h p (.lst ds.dropLast))
instance : RMW K rPop fPop := ⟨fun S rx rs ⟨p, ds, e, e1, e2, e3, l, q⟩ k => by
  subst e2
  cases rs
  obtain ⟨xs, z, r⟩ := Rl.lvH S e3
  obtain ⟨w, hw, rw'⟩ := r.getD l
  exact ⟨p, xs, w, rx.r (a := p) (by rw [e1]; exact asR_rf p), rfl, z, by rw [r.length]; exact hw, lst_put S e3 (dropLast_rl r) rw' k q⟩⟩
theorem eraseIdx_rl {N : Addr → Prop} {H : Hp} {h : Lh} : ∀ {xs : List V} {ds : List PyData} (i : Nat), Rls K N H h xs ds → Rls K N H h (xs.eraseIdx i) (ds.eraseIdx i)
  | _, _, _, .nil => .nil
  | _, _, 0, .cons a b => b
  | _, _, i + 1, .cons a b => .cons a (eraseIdx_rl i b)
@[simp] def fPopAt (d : PyData) (es : List PyData) (h : Lh) (P : Wv) : Prop := ∃ p ds e i k, d = rf p ∧ es = [.int i] ∧ h p = some (.lst ds) ∧ -(2 ^ 63) ≤ i ∧ i < 2 ^ 63 ∧ seqIndex? i ds.length = some k ∧ ds[k]? = some e ∧ P e (up h p (.lst (ds.eraseIdx k)))
instance : RMW K rPopAt fPopAt := ⟨fun S rx rs ⟨p, ds, e, i, k', e1, e2, e3, l1, l2, l3, l4, q⟩ k => by
  subst e2
  obtain ⟨w0, rfl, i0⟩ := rs.one
  obtain ⟨xs, z, r⟩ := Rl.lvH S e3
  obtain ⟨w, hw, rw'⟩ := r.getD l4
  exact ⟨p, xs, i, k', w, rx.r (a := p) (by rw [e1]; exact asR_rf p), by rw [i0.i], z, l1, l2, by rw [r.length]; exact l3, hw, lst_put S e3 (eraseIdx_rl k' r) rw' k q⟩⟩
end
end Wl
set_option Elab.async false
set_option linter.all false
set_option maxRecDepth 100000
set_option maxHeartbeats 2000000
/-! Wd: statements, loops, comprehensions over the plain layer. -/
namespace Wl
open PySem PySem.Spec PyProof.Rows L2 Evl Pd
structure WEnds where
  nx : Ev' → Lh → Prop
  rt : Wv
  bk : Ev' → Lh → Prop := fun _ _ => False
  ct : Ev' → Lh → Prop := fun _ _ => False
abbrev WS := WEnds → Ev' → Lh → Prop
def KoS (K : PySem.W.Frag) (XX : XP) (N : Addr → Prop) (H : Hp) (h : Lh) (P : Ev' → Lh → Prop) (Q : L2.St → Hp → Prop) : Prop := ∀ σ' ρ' H' h', Tr H h H' h' → Sx K XX N H' h' → En K N H' h' σ' ρ' → P ρ' h' → Q σ' H'
theorem KoS.tr {K : PySem.W.Frag} {XX : XP} {N : Addr → Prop} {H H' : Hp} {h h' : Lh} {P : Ev' → Lh → Prop} {Q : L2.St → Hp → Prop} (t : Tr H h H' h') (k : KoS K XX N H h P Q) : KoS K XX N H' h' P Q := fun v d H2 h2 t2 S r p => k v d H2 h2 (t.trans t2) S r p
structure EnK (K : PySem.W.Frag) (XX : XP) (N : Addr → Prop) (H : Hp) (h : Lh) (E : WEnds) (D : Ends) : Prop where
  nx : KoS K XX N H h E.nx D.nx
  rt : Ko K XX N H h E.rt D.rt
  bk : KoS K XX N H h E.bk D.bk
  ct : KoS K XX N H h E.ct D.ct
theorem EnK.tr {K : PySem.W.Frag} {XX : XP} {N : Addr → Prop} {H H' : Hp} {h h' : Lh} {E : WEnds} {D : Ends} (t : Tr H h H' h') (k : EnK K XX N H h E D) : EnK K XX N H' h' E D := ⟨k.nx.tr t, k.rt.tr t, k.bk.tr t, k.ct.tr t⟩
class RS (K : PySem.W.Frag) (XX : XP) (ts : TS) (w : outParam WS) : Prop where
  run : ∀ {N : Addr → Prop} {σ : L2.St} {H : Hp} {ρ : Ev'} {h : Lh} {E : WEnds} {D : Ends}, Sx K XX N H h → En K N H h σ ρ → w E ρ h → EnK K XX N H h E D → ts D σ H
abbrev WG := PyData → Ev' → Lh → (Ev' → Lh → Prop) → Prop
class RG (K : PySem.W.Frag) (XX : XP) (g : TG) (w : outParam WG) : Prop where
  run : ∀ {N : Addr → Prop} {v : V} {d : PyData} {σ : L2.St} {H : Hp} {ρ : Ev'} {h : Lh} {P : Ev' → Lh → Prop} {Q : L2.St → Hp → Prop}, Sx K XX N H h → En K N H h σ ρ → Rl K N H h v d → w d ρ h P → KoS K XX N H h P Q → g v σ H Q
abbrev WGs := List PyData → Ev' → Lh → (Ev' → Lh → Prop) → Prop
class RGs (K : PySem.W.Frag) (XX : XP) (g : TGs) (w : outParam WGs) : Prop where
  run : ∀ {N : Addr → Prop} {v : List V} {d : List PyData} {σ : L2.St} {H : Hp} {ρ : Ev'} {h : Lh} {P : Ev' → Lh → Prop} {Q : L2.St → Hp → Prop}, Sx K XX N H h → En K N H h σ ρ → Rls K N H h v d → w d ρ h P → KoS K XX N H h P Q → g v σ H Q
section
variable {K : PySem.W.Frag} {XX : XP}
/-! ### targets -/
@[simp] def wName (i : Nat) : WG := fun d ρ h P => P (ρ.set i (some d)) h
instance (i : Nat) : RG K XX (gName i) (wName i) := ⟨fun S E r p k => k _ _ _ _ (Tr.refl _ _) S (E.set i r) p⟩
@[simp] def wGNil : WGs := fun ds ρ h P => ds = [] ∧ P ρ h
@[simp] def wGCons (a : WG) (b : WGs) : WGs := fun ds ρ h P => ∃ d es, ds = d :: es ∧ a d ρ h fun ρ1 h1 => b es ρ1 h1 P
instance : RGs K XX gNil wGNil := ⟨fun S E r ⟨e, p⟩ k => by subst e; cases r; exact ⟨rfl, k _ _ _ _ (Tr.refl _ _) S E p⟩⟩
instance {ta : TG} {tb : TGs} {a : WG} {b : WGs} [A : RG K XX ta a] [B : RGs K XX tb b] : RGs K XX (gCons ta tb) (wGCons a b) := ⟨fun S E r ⟨d, es, e, p⟩ k => by
  subst e
  cases r with
  | cons r1 r2 => exact ⟨_, _, rfl, A.run S E r1 p fun σ1 ρ1 H1 h1 t1 S1 E1 p1 => B.run S1 E1 (r2.tr t1) p1 (k.tr t1)⟩⟩
@[simp] def wGTup (n : Nat) (b : WGs) : WG := fun d ρ h P => ∃ ds, tv d = some ds ∧ ds.length = n ∧ b ds ρ h P
instance {tb : TGs} {b : WGs} {n : Nat} [B : RGs K XX tb b] : RG K XX (gTup K n tb) (wGTup n b) := ⟨fun S E r ⟨ds, e, l, p⟩ k => by
  obtain ⟨a, xs, rfl, t, rs⟩ := r.tv e
  exact ⟨a, xs, rfl, t, by rw [rs.length]; exact l, B.run S E rs p k⟩⟩
@[simp] def wGSub (a b : WE) : WG := fun d ρ h P => a ρ h fun o h1 => b ρ h1 fun i h2 => ∃ p ds k j, o = rf p ∧ i = .int k ∧ h2 p = some (.lst ds) ∧ ixN ds.length k = some j ∧ P ρ (up h2 p (.lst (ds.set j d)))
instance {ta tb : TE} {a b : WE} [A : RE K XX ta a] [B : RE K XX tb b] : RG K XX (gSub ta tb rSetL) (wGSub a b) := ⟨fun {N v d σ H ρ h P Q} S E r p k =>
  A.run S E p fun o od H1 h1 t1 S1 r1 p1 => B.run S1 (E.tr t1) p1 fun i id H2 h2 t2 S2 r2 ⟨q, ds, n, j, e1, e2, e3, e4, p2⟩ => by
    subst e2
    obtain ⟨xs, z, rs⟩ := Rl.lvH S2 e3
    have hp : H2 q = none ∨ h2 q ≠ none := .inr (by rw [e3]; intro z; cases z)
    have t := t1.trans t2
    have t3 : Tr H2 h2 (L2.upd H2 q (.lst (xs.set j v))) (up h2 q (.lst (ds.set j d))) := Tr.put hp
    refine ⟨q, xs, n, j, (r1.tr t2).r (a := q) (by rw [e1]; exact asR_rf q), r2.i, z, by rw [rs.length]; exact e4, k _ _ _ _ (t.trans t3) (S2.put hp (.lst (Rls.set (r.tr t) j rs))) (E.tr (t.trans t3)) p2⟩⟩
/-! ### statements -/
@[simp] def wNext : WS := fun E ρ h => E.nx ρ h
@[simp] def wSeq (a b : WS) : WS := fun E ρ h => a { E with nx := b E } ρ h
@[simp] def wBreak : WS := fun E ρ h => E.bk ρ h
@[simp] def wCont : WS := fun E ρ h => E.ct ρ h
@[simp] def wDrop (a : WE) : WS := fun E ρ h => a ρ h fun _ h1 => E.nx ρ h1
@[simp] def wRet (a : WE) : WS := fun E ρ h => a ρ h E.rt
@[simp] def wRetN : WS := fun E _ h => E.rt .none h
@[simp] def wIfS (t : WT) (a b : WS) : WS := fun E ρ h => t ρ h fun c h1 => wCond c (a E ρ h1) (b E ρ h1)
@[simp] def wAsg (a : WE) (g : WG) : WS := fun E ρ h => a ρ h fun d h1 => g d ρ h1 E.nx
@[simp] def wPar (i j : Nat) (a : WA) : WS := fun E ρ h => a ρ h fun ds h1 => ∃ d e, ds = [d, e] ∧ E.nx ((ρ.set i (some d)).set j (some e)) h1
@[simp] def wPar3 (i j l : Nat) (a : WA) : WS := fun E ρ h => a ρ h fun ds h1 => ∃ d e f, ds = [d, e, f] ∧ E.nx (((ρ.set i (some d)).set j (some e)).set l (some f)) h1
instance : RS K XX tNext wNext := ⟨fun S E p k => k.nx _ _ _ _ (Tr.refl _ _) S E p⟩
instance {ta tb : TS} {a b : WS} [A : RS K XX ta a] [B : RS K XX tb b] : RS K XX (tSeq ta tb) (wSeq a b) := ⟨fun S E p k =>
  A.run S E p ⟨fun σ1 ρ1 H1 h1 t1 S1 E1 p1 => B.run S1 E1 p1 (k.tr t1), k.rt, k.bk, k.ct⟩⟩
instance : RS K XX tBreak wBreak := ⟨fun S E p k => k.bk _ _ _ _ (Tr.refl _ _) S E p⟩
instance : RS K XX tCont wCont := ⟨fun S E p k => k.ct _ _ _ _ (Tr.refl _ _) S E p⟩
instance {ta : TE} {a : WE} [A : RE K XX ta a] : RS K XX (tDrop ta) (wDrop a) := ⟨fun S E p k => A.run S E p fun v d H1 h1 t1 S1 r1 p1 => k.nx _ _ _ _ t1 S1 (E.tr t1) p1⟩
instance {ta : TE} {a : WE} [A : RE K XX ta a] : RS K XX (tRet ta) (wRet a) := ⟨fun S E p k => A.run S E p k.rt⟩
instance : RS K XX tRetN wRetN := ⟨fun S E p k => k.rt.at S .non p⟩
instance {tt : TT} {ta tb : TS} {t : WT} {a b : WS} [T : RT K XX tt t] [A : RS K XX ta a] [B : RS K XX tb b] : RS K XX (tIfS tt ta tb) (wIfS t a b) := ⟨fun S E p k => T.run S E p fun c H1 h1 t1 S1 p1 =>
  p1.on (fun q => A.run S1 (E.tr t1) q (k.tr t1)) fun q => B.run S1 (E.tr t1) q (k.tr t1)⟩
instance {ta : TE} {tg : TG} {a : WE} {g : WG} [A : RE K XX ta a] [G : RG K XX tg g] : RS K XX (tAsg ta tg) (wAsg a g) := ⟨fun S E p k => A.run S E p fun v d H1 h1 t1 S1 r1 p1 => G.run S1 (E.tr t1) r1 p1 (k.nx.tr t1)⟩
instance {ta : TA} {a : WA} {i j : Nat} [A : RA K XX ta a] : RS K XX (tPar i j ta) (wPar i j a) := ⟨fun S E p k => A.run S E p fun vs ds H1 h1 t1 S1 r1 ⟨d, e, q, p1⟩ => by
  subst q
  obtain ⟨v, w, rfl, rv, rw'⟩ := r1.two
  exact ⟨v, w, rfl, k.nx _ _ _ _ t1 S1 (((E.tr t1).set i rv).set j rw') p1⟩⟩
instance {ta : TA} {a : WA} {i j l : Nat} [A : RA K XX ta a] : RS K XX (tPar3 i j l ta) (wPar3 i j l a) := ⟨fun S E p k => A.run S E p fun vs ds H1 h1 t1 S1 r1 ⟨d, e, f, q, p1⟩ => by
  subst q
  cases r1 with
  | cons ru r1 =>
    obtain ⟨v, w, rfl, rv, rw'⟩ := r1.two
    exact ⟨_, v, w, rfl, k.nx _ _ _ _ t1 S1 ((((E.tr t1).set i ru).set j rv).set l rw') p1⟩⟩
/-- e.f = v -/
@[simp] def putFD (f : Str) (v : PyData) : List (Str × PyData) → List (Str × PyData)
  | [] => [(f, v)]
  | (g, u) :: r => if g = f then (g, v) :: r else (g, u) :: putFD f v r
theorem Paired.putF {N : Addr → Prop} {H : Hp} {h : Lh} {f : Str} {v : V} {d : PyData} (r : Rl K N H h v d) : ∀ {xs : List (Str × V)} {fs : List (Str × PyData)}, Paired (fun (p : Str × V) (q : Str × PyData) => p.1 = q.1 ∧ Rl K N H h p.2 q.2) xs fs →
    Paired (fun (p : Str × V) (q : Str × PyData) => p.1 = q.1 ∧ Rl K N H h p.2 q.2) (L2.putF f v xs) (putFD f d fs)
  | _, _, .nil => .cons ⟨rfl, r⟩ .nil
  | (k, x) :: xs, (k', d') :: fs, .cons a b => by
    obtain ⟨a1, a2⟩ := a
    cases a1
    unfold L2.putF putFD
    by_cases c : k = f
    · rw [if_pos c, if_pos c]; exact .cons ⟨rfl, r⟩ b
    · rw [if_neg c, if_neg c]; exact .cons ⟨rfl, a2⟩ (Paired.putF r b)
theorem Paired.len {α β : Type} {r : α → β → Prop} : ∀ {xs : List α} {ys : List β}, Paired r xs ys → xs.length = ys.length
  | _, _, .nil => rfl
  | _, _, .cons _ b => by simp [Paired.len b]
@[simp] def wSetFld (K : PySem.W.Frag) (a v : WE) (f : Str) : WS := fun E ρ h => v ρ h fun d h1 => a ρ h1 fun o h2 => ∃ p C fs, o = rf p ∧ h2 p = some (.ins C fs) ∧ Cls K C ∧ NoAttr K C f ∧ fs.length < 1000 ∧ E.nx ρ (up h2 p (.ins C (putFD f d fs)))
instance {ta tv : TE} {a v : WE} {f : Str} [A : RE K XX ta a] [B : RE K XX tv v] : RS K XX (sFld K ta tv f) (wSetFld K a v f) := ⟨fun {N σ H ρ h E D} S En p k =>
  B.run S En p fun y d H1 h1 t1 S1 r1 p1 => A.run S1 (En.tr t1) p1 fun x o H2 h2 t2 S2 r2 ⟨q, C, fs, e, e2, c1, c2, l, p2⟩ => by
    obtain ⟨dx, xs, z, pr⟩ := Rl.insH S2 e2
    have hp : H2 q = none ∨ h2 q ≠ none := .inr (by rw [e2]; intro z; cases z)
    have t := t1.trans t2
    have t3 : Tr H2 h2 (L2.upd H2 q (.ins C dx (L2.putF f y xs))) (up h2 q (.ins C (putFD f d fs))) := Tr.put hp
    exact ⟨q, C, dx, xs, r2.r (a := q) (by rw [e]; exact asR_rf q), z, c1, c2, by rw [Paired.len pr]; exact l, k.nx _ _ _ _ (t.trans t3) (S2.put hp (.ins (Paired.putF (r1.tr t2) pr))) (En.tr (t.trans t3)) p2⟩⟩
/-! ### what is walked -/
abbrev WI := Ev' → Lh → (List PyData → (Lh → Prop) → Lh → Prop) → Prop
class RI (K : PySem.W.Frag) (XX : XP) (wi : TI) (w : outParam WI) : Prop where
  run : ∀ {N : Addr → Prop} {σ : L2.St} {H : Hp} {ρ : Ev'} {h : Lh} {P : List PyData → (Lh → Prop) → Lh → Prop} {R : It → Hp → Prop}, Sx K XX N H h → En K N H h σ ρ → w ρ h P →
    (∀ (J : It) (H2 : Hp) (h2 : Lh) (ds : List PyData) (keep : Lh → Prop) (G : Hp → Prop) (Y : Nat → Hp → V → Hp → Prop), Tr H h H2 h2 → Sx K XX N H2 h2 → P ds keep h2 → Walk J ds.length G Y →
      (∀ (N' : Addr → Prop) (H3 : Hp) (h3 : Lh), (∀ a, N' a → N a ∨ H2 a = none) → Tr H2 h2 H3 h3 → Sx K XX N' H3 h3 → keep h3 → G H3) →
      (∀ (N' : Addr → Prop) (i : Nat) (H3 : Hp) (h3 : Lh) (x : V) (H4 : Hp), (∀ a, N' a → N a ∨ H2 a = none) → Tr H2 h2 H3 h3 → Sx K XX N' H3 h3 → keep h3 → Y i H3 x H4 → ∃ d, ds[i]? = some d ∧ Tr H3 h3 H4 h3 ∧ Ex H3 H4 ∧ Sx K XX N' H4 h3 ∧ Rl K N' H4 h3 x d) → R J H2) → wi σ H R
@[simp] def wITup (a : WE) : WI := fun ρ h P => a ρ h fun d h1 => ∃ ds, tv d = some ds ∧ P ds (fun _ => True) h1
theorem Rl.tup' {N : Addr → Prop} {H : Hp} {h : Lh} {v : V} {d : PyData} {ds : List PyData} (r : Rl K N H h v d) (e : Wl.tv d = some ds) : ∃ a xs, v = .ref a ∧ Tu K N H h a xs ∧ Rls K N H h xs ds := by
  unfold Wl.tv at e
  split at e
  · cases e; exact r.t
  · cases e
theorem Tu.tr {N N' : Addr → Prop} {H H' : Hp} {h h' : Lh} {a : Addr} {xs : List V} (t : Tr H h H' h') (u : Tu K N H h a xs) : SqT K H' a xs := by
  rcases u with u | u
  · exact SqT.of (t.k _ _ u.1 u.2.1).1
  · exact .inr u
instance {ta : TE} {a : WE} [A : RE K XX ta a] : RI K XX (iTup K ta) (wITup a) := ⟨fun {N σ H ρ h P R} S E p k => A.run S E p fun v d H1 h1 t1 S1 r1 ⟨ds, e, p1⟩ => by
  obtain ⟨q, xs, rfl, t, rs⟩ := r1.tup' e
  refine ⟨q, rfl, ⟨xs, t.sq⟩, k _ H1 h1 ds _ (fun H => SqT K H q xs) (YAt xs) t1 S1 p1 (by rw [← rs.length]; exact walk_tup) (fun N' H3 h3 _ t3 _ _ => t.tr (N' := N) t3) fun N' i H3 h3 x H4 hN t3 S3 _ yy => ?_⟩
  obtain ⟨rfl, hx⟩ := yy
  obtain ⟨d, hd, r⟩ := rs.get hx
  exact ⟨d, hd, Tr.refl _ _, Ex.refl _, S3, (r.hid hN).tr t3⟩⟩
@[simp] def wIList (a : WE) : WI := fun ρ h P => a ρ h fun d h1 => ∃ ds, lv h1 d = some ds ∧ P ds (fun h3 => lv h3 d = some ds) h1
theorem walkL {a : Addr} {n : Nat} : Walk (Itl K a) n (fun H => ∃ xs, SqL K H a xs ∧ xs.length = n) (fun i H x H' => H' = H ∧ ∀ xs, SqL K H a xs → xs[i]? = some x) :=
  ⟨fun i H hi ⟨xs, s, l⟩ => ⟨xs, xs[i]'(by omega), s, by simp [show i < xs.length by omega]⟩, fun H ⟨xs, s, l⟩ => ⟨xs, s, by omega⟩, fun i H x H' hi _ y => y⟩
instance {ta : TE} {a : WE} [A : RE K XX ta a] : RI K XX (iList K ta) (wIList a) := ⟨fun {N σ H ρ h P R} S E p k => A.run S E p fun v d H1 h1 t1 S1 r1 ⟨ds, e, p1⟩ => by
  obtain ⟨q, xs, rfl, t, rs⟩ := r1.lv S1 e
  have at3 : ∀ (N' : Addr → Prop) (H3 : Hp) (h3 : Lh), (∀ a, N' a → N a ∨ H1 a = none) → Tr H1 h1 H3 h3 → Sx K XX N' H3 h3 → lv h3 d = some ds → ∃ ys, SqL K H3 q ys ∧ Rls K N' H3 h3 ys ds := fun N' H3 h3 hN t3 S3 e3 => by
    obtain ⟨q', ys, e', z, r3⟩ := ((r1.hid hN).tr t3).lv S3 e3
    cases e'
    exact ⟨ys, z, r3⟩
  refine ⟨q, rfl, ⟨xs, t⟩, k _ H1 h1 ds _ (fun H => ∃ xs, SqL K H q xs ∧ xs.length = ds.length) (fun i H x H' => H' = H ∧ ∀ xs, SqL K H q xs → xs[i]? = some x) t1 S1 p1 walkL (fun N' H3 h3 hN t3 S3 kp => ?_) fun N' i H3 h3 x H4 hN t3 S3 kp yy => ?_⟩
  · obtain ⟨ys, z, r3⟩ := at3 N' H3 h3 hN t3 S3 kp
    exact ⟨ys, z, r3.length⟩
  · obtain ⟨ys, z, r3⟩ := at3 N' H3 h3 hN t3 S3 kp
    obtain ⟨rfl, hx⟩ := yy
    obtain ⟨d', hd, r⟩ := r3.get (hx ys z)
    exact ⟨d', hd, Tr.refl _ _, Ex.refl _, S3, r⟩⟩
@[simp] def wIStr (a : WE) : WI := fun ρ h P => a ρ h fun d h1 => ∃ z, d = .str z ∧ P (Pd.signs z) (fun _ => True) h1
instance {ta : TE} {a : WE} [A : RE K XX ta a] : RI K XX (iStr ta) (wIStr a) := ⟨fun {N σ H ρ h P R} S E p k => A.run S E p fun v d H1 h1 t1 S1 r1 ⟨z, e, p1⟩ => by
  subst e
  refine ⟨z, r1.s, k _ H1 h1 (Pd.signs z) _ (fun _ => True) (fun i H v H' => H' = H ∧ ∃ c, z.cps[i]? = some c ∧ v = .str ⟨#[c]⟩) t1 S1 p1 (by
    have : (Pd.signs z).length = z.cps.size := by simp [Pd.signs]
    rw [this]; exact walk_str) (fun _ _ _ _ _ _ _ => trivial) fun N' i H3 h3 x H4 hN t3 S3 _ yy => ?_⟩
  obtain ⟨rfl, c, hc, rfl⟩ := yy
  refine ⟨.str ⟨#[c]⟩, ?_, Tr.refl _ _, Ex.refl _, S3, .str _⟩
  unfold Pd.signs
  rw [List.getElem?_map]
  have : z.cps.toList[i]? = some c := by simpa using hc
  rw [this]; rfl⟩
def rgD (i j : Int) : List PyData := (List.range (j - i).toNat).map fun k => .int (i + (k : Nat))
theorem rgD_len (i j : Int) : (rgD i j).length = (j - i).toNat := by simp [rgD]
theorem rgD_at {i j : Int} {k : Nat} (h : k < (j - i).toNat) : (rgD i j)[k]? = some (.int (i + (k : Nat))) := by simp [rgD, h]
theorem walkR {lo : Int} {n : Nat} : Walk (Itr lo n) n (fun _ => True) (fun i H x H' => i < n ∧ H' = H ∧ x = .int (lo + i)) :=
  ⟨fun i H hi _ => hi, fun H _ => Nat.le_refl _, fun i H x H' hi _ y => ⟨hi, y.1, y.2⟩⟩
@[simp] def wIRng1 (a : WA) : WI := fun ρ h P => a ρ h fun ds h1 => ∃ j, ds = [.int j] ∧ -100000000 ≤ j ∧ j ≤ 100000000 ∧ P (rgD 0 j) (fun _ => True) h1
instance {ta : TA} {a : WA} [A : RA K XX ta a] : RI K XX (iRng1 ta) (wIRng1 a) := ⟨fun {N σ H ρ h P R} S E p k => A.run S E p fun vs ds H1 h1 t1 S1 r1 ⟨j, e, l1, l2, p1⟩ => by
  subst e
  obtain ⟨v, rfl, i⟩ := r1.one
  refine ⟨j, by rw [i.i], by omega, by omega, k _ H1 h1 (rgD 0 j) _ (fun _ => True) (fun i H x H' => i < j.toNat ∧ H' = H ∧ x = .int (0 + i)) t1 S1 p1 (by rw [rgD_len, Int.sub_zero]; exact walkR) (fun _ _ _ _ _ _ _ => trivial) fun N' i H3 h3 x H4 hN t3 S3 _ yy => ?_⟩
  obtain ⟨hi, rfl, rfl⟩ := yy
  exact ⟨_, rgD_at (by rw [Int.sub_zero]; exact hi), Tr.refl _ _, Ex.refl _, S3, .int _⟩⟩
@[simp] def wIRng2 (a : WA) : WI := fun ρ h P => a ρ h fun ds h1 => ∃ i j, ds = [.int i, .int j] ∧ -100000000 ≤ i ∧ i ≤ 100000000 ∧ -100000000 ≤ j ∧ j ≤ 100000000 ∧ P (rgD i j) (fun _ => True) h1
instance {ta : TA} {a : WA} [A : RA K XX ta a] : RI K XX (iRng2 ta) (wIRng2 a) := ⟨fun {N σ H ρ h P R} S E p k => A.run S E p fun vs ds H1 h1 t1 S1 r1 ⟨i, j, e, l1, l2, l3, l4, p1⟩ => by
  subst e
  obtain ⟨v, w, rfl, iv, iw⟩ := r1.two
  refine ⟨i, j, by rw [iv.i, iw.i], ⟨by omega, by omega, by omega, by omega⟩, k _ H1 h1 (rgD i j) _ (fun _ => True) (fun n H x H' => n < (j - i).toNat ∧ H' = H ∧ x = .int (i + n)) t1 S1 p1 (by rw [rgD_len]; exact walkR) (fun _ _ _ _ _ _ _ => trivial) fun N' n H3 h3 x H4 hN t3 S3 _ yy => ?_⟩
  obtain ⟨hi, rfl, rfl⟩ := yy
  exact ⟨_, rgD_at hi, Tr.refl _ _, Ex.refl _, S3, .int _⟩⟩
/-! ### loops -/
@[simp] def forL (keep : Lh → Prop) (g : WG) (b : WS) (E : WEnds) : List PyData → Ev' → Lh → Prop
  | [], ρ, h => keep h ∧ E.nx ρ h
  | d :: ds, ρ, h => keep h ∧ g d ρ h fun ρ1 h1 => b { nx := forL keep g b E ds, rt := E.rt, bk := E.nx, ct := forL keep g b E ds } ρ1 h1
@[simp] def wFor (s : WI) (g : WG) (b : WS) : WS := fun E ρ h => s ρ h fun ds keep h1 => forL keep g b E ds ρ h1
theorem forL_keep {keep : Lh → Prop} {g : WG} {b : WS} {E : WEnds} {ds : List PyData} {ρ : Ev'} {h : Lh} (p : forL keep g b E ds ρ h) : keep h := by
  cases ds <;> exact p.1
instance {ti : TI} {tg : TG} {tb : TS} {s : WI} {g : WG} {b : WS} [I : RI K XX ti s] [G : RG K XX tg g] [B : RS K XX tb b] : RS K XX (tFor ti tg tb) (wFor s g b) := ⟨fun {N σ H ρ h E D} S En0 p k =>
  I.run S En0 p fun J H2 h2 ds keep Gd Y t2 S2 p2 W hG hY => by
    refine for_it W (fun i σ' H' => ∃ ρ' h', Tr H2 h2 H' h' ∧ Sx K XX N H' h' ∧ En K N H' h' σ' ρ' ∧ forL keep g b E (ds.drop i) ρ' h') ⟨ρ, h2, Tr.refl _ _, S2, En0.tr t2, p2⟩ (fun i σ' H' _ ⟨ρ', h', t', S', E', p'⟩ => hG N H' h' (fun a z => .inl z) t' S' (forL_keep p')) (fun i x σ' H' H4 hi ⟨ρ', h', t', S', E', p'⟩ y => ?_) fun σ' H' ⟨ρ', h', t', S', E', p'⟩ => ?_
    · obtain ⟨d, hd, t4, _, S4, r4⟩ := hY N i H' h' x H4 (fun a z => .inl z) t' S' (forL_keep p') y
      have hdr : ds.drop i = d :: ds.drop (i + 1) := by
        have hl : i < ds.length := hi
        rw [List.drop_eq_getElem_cons hl]
        have : ds[i] = d := by simpa [hl] using hd
        rw [this]
      rw [hdr] at p'
      refine G.run S4 (E'.tr t4) r4 p'.2 fun σ5 ρ5 H5 h5 t5 S5 E5 p5 => B.run S5 E5 p5 ⟨?_, ?_, ?_, ?_⟩
      · exact fun σ6 ρ6 H6 h6 t6 S6 E6 p6 => ⟨ρ6, h6, ((t'.trans t4).trans t5).trans t6, S6, E6, p6⟩
      · exact k.rt.tr (((t2.trans t').trans t4).trans t5)
      · exact k.nx.tr (((t2.trans t').trans t4).trans t5)
      · exact fun σ6 ρ6 H6 h6 t6 S6 E6 p6 => ⟨ρ6, h6, ((t'.trans t4).trans t5).trans t6, S6, E6, p6⟩
    · rw [List.drop_length] at p'
      exact k.nx _ _ _ _ (t2.trans t') S' E' p'.2⟩
def whN (t : WT) (b : WS) (E : WEnds) : Nat → Ev' → Lh → Prop
  | 0, _, _ => False
  | n + 1, ρ, h => t ρ h fun c h1 => wCond c (b { nx := whN t b E n, rt := E.rt, bk := E.nx, ct := whN t b E n } ρ h1) (E.nx ρ h1)
def wWhile (t : WT) (b : WS) : WS := fun E ρ h => ∃ n, whN t b E n ρ h
instance {tt : TT} {tb : TS} {t : WT} {b : WS} [T : RT K XX tt t] [B : RS K XX tb b] : RS K XX (tWhile tt tb) (wWhile t b) := ⟨fun {N σ H ρ h E D} S En0 ⟨n, p⟩ k => by
  refine ⟨fun m σ' H' => ∃ ρ' h', Tr H h H' h' ∧ Sx K XX N H' h' ∧ En K N H' h' σ' ρ' ∧ whN t b E m ρ' h', ⟨n, ρ, h, Tr.refl _ _, S, En0, p⟩, ?_⟩
  rintro m σ' H' ⟨ρ', h', t', S', E', p'⟩
  cases m with
  | zero => exact p'.elim
  | succ m =>
    refine T.run S' E' p' fun c H1 h1 t1 S1 p1 => p1.on (fun q => ?_) fun q => k.nx _ _ _ _ (t'.trans t1) S1 (E'.tr t1) q
    refine ⟨fun σ2 H2 => ∃ ρ2 h2, Tr H h H2 h2 ∧ Sx K XX N H2 h2 ∧ En K N H2 h2 σ2 ρ2 ∧ whN t b E m ρ2 h2, fun σ2 H2 z => ⟨m, Nat.lt_succ_self m, z⟩, B.run S1 (E'.tr t1) q ⟨?_, ?_, ?_, ?_⟩⟩
    · exact fun σ6 ρ6 H6 h6 t6 S6 E6 p6 => ⟨ρ6, h6, (t'.trans t1).trans t6, S6, E6, p6⟩
    · exact k.rt.tr (t'.trans t1)
    · exact k.nx.tr (t'.trans t1)
    · exact fun σ6 ρ6 H6 h6 t6 S6 E6 p6 => ⟨ρ6, h6, (t'.trans t1).trans t6, S6, E6, p6⟩⟩
end
end Wl
set_option Elab.async false
set_option linter.all false
set_option maxRecDepth 100000
set_option maxHeartbeats 2000000
/-! We: comprehensions, enumerate, zip over the plain layer. -/
namespace Wl
open PySem PySem.Spec PyProof.Rows L2 Evl Pd
theorem wipe_at (σ : L2.St) (i : Nat) : ∀ vs, (wipe σ vs)[i]? = if i ∈ vs then (if i < σ.length then some none else none) else σ[i]?
  | [] => by simp [wipe]
  | v :: vs => by
    have ih := wipe_at σ i vs
    unfold wipe
    rw [List.getElem?_set, ih, wipe_length]
    by_cases c : v = i
    · subst c; simp
    · have c' : ¬ i = v := fun z => c z.symm
      rw [if_neg c]
      simp only [List.mem_cons, c', false_or]
theorem wipe_twice (σ : L2.St) (vs : List Nat) : wipe (wipe σ vs) vs = wipe σ vs := by
  apply List.ext_getElem?
  intro i
  rw [wipe_at, wipe_at, wipe_length]
  by_cases c : i ∈ vs
  · rw [if_pos c, if_pos c]
  · rw [if_neg c, if_neg c]
theorem wipe_set {σ : L2.St} {j : Nat} {y : Option V} {vs : List Nat} (h : j ∈ vs) : wipe (σ.set j y) vs = wipe σ vs := by
  apply List.ext_getElem?
  intro i
  rw [wipe_at, wipe_at, List.length_set]
  by_cases c : i ∈ vs
  · rw [if_pos c, if_pos c]
  · rw [if_neg c, if_neg c, List.getElem?_set_ne (fun z => c (by rw [← z]; exact h))]
/-- j is among the names of a comprehension -/
class MemO (j : Nat) (vs : List Nat) : Prop where
  mem : j ∈ vs
instance (j : Nat) (s : Str) (l : List (Str × Nat)) : MemO j (((s, j) :: l).map (·.2)) := ⟨by simp⟩
instance (j : Nat) (p : Str × Nat) (l : List (Str × Nat)) [M : MemO j (l.map (·.2))] : MemO j ((p :: l).map (·.2)) := ⟨by
  rw [List.map_cons]; exact List.mem_cons_of_mem _ M.mem⟩
class RGC (K : PySem.W.Frag) (XX : XP) (vs : List Nat) (g : TG) (w : outParam WG) : Prop where
  run : ∀ {N : Addr → Prop} {v : V} {d : PyData} {σ : L2.St} {H : Hp} {ρ : Ev'} {h : Lh} {P : Ev' → Lh → Prop} {Q : L2.St → Hp → Prop}, Sx K XX N H h → En K N H h σ ρ → Rl K N H h v d → w d ρ h P →
    (∀ σ' ρ', En K N H h σ' ρ' → wipe σ' vs = wipe σ vs → P ρ' h → Q σ' H) → g v σ H Q
class RGsC (K : PySem.W.Frag) (XX : XP) (vs : List Nat) (g : TGs) (w : outParam WGs) : Prop where
  run : ∀ {N : Addr → Prop} {v : List V} {d : List PyData} {σ : L2.St} {H : Hp} {ρ : Ev'} {h : Lh} {P : Ev' → Lh → Prop} {Q : L2.St → Hp → Prop}, Sx K XX N H h → En K N H h σ ρ → Rls K N H h v d → w d ρ h P →
    (∀ σ' ρ', En K N H h σ' ρ' → wipe σ' vs = wipe σ vs → P ρ' h → Q σ' H) → g v σ H Q
section
variable {K : PySem.W.Frag} {XX : XP} {vs : List Nat}
instance (i : Nat) [M : MemO i vs] : RGC K XX vs (gName i) (wName i) := ⟨fun S E r p k => k _ _ (E.set i r) (wipe_set M.mem) p⟩
instance : RGsC K XX vs gNil wGNil := ⟨fun S E r ⟨e, p⟩ k => by subst e; cases r; exact ⟨rfl, k _ _ E rfl p⟩⟩
instance {ta : TG} {tb : TGs} {a : WG} {b : WGs} [A : RGC K XX vs ta a] [B : RGsC K XX vs tb b] : RGsC K XX vs (gCons ta tb) (wGCons a b) := ⟨fun S E r ⟨d, es, e, p⟩ k => by
  subst e
  cases r with
  | cons r1 r2 => exact ⟨_, _, rfl, A.run S E r1 p fun σ1 ρ1 E1 w1 p1 => B.run S E1 r2 p1 fun σ2 ρ2 E2 w2 p2 => k _ _ E2 (w2.trans w1) p2⟩⟩
instance {tb : TGs} {b : WGs} {n : Nat} [B : RGsC K XX vs tb b] : RGC K XX vs (gTup K n tb) (wGTup n b) := ⟨fun S E r ⟨ds, e, l, p⟩ k => by
  obtain ⟨a, xs, rfl, t, rs⟩ := r.tv e
  exact ⟨a, xs, rfl, t, by rw [rs.length]; exact l, B.run S E rs p k⟩⟩
/-! ### comprehensions -/
@[simp] def lcL (keep : Lh → Prop) (g : WG) (t : WT) (e : WE) (ρ : Ev') (P : List PyData → Lh → Prop) : List PyData → List PyData → Lh → Prop
  | [], acc, h => keep h ∧ P acc h
  | d :: ds, acc, h => keep h ∧ acc.length < 100000 ∧ g d ρ h fun ρ1 h1 => t ρ1 h1 fun b h2 => wCond b (e ρ1 h2 fun x h3 => lcL keep g t e ρ P ds (acc ++ [x]) h3) (lcL keep g t e ρ P ds acc h2)
@[simp] def wLc (s : WI) (g : WG) (t : WT) (e : WE) (vs : List Nat) : WA := fun ρ h P => s ρ h fun ds keep h1 => lcL keep g t e (wipeD ρ vs) P ds [] h1
theorem lcL_keep {keep : Lh → Prop} {g : WG} {t : WT} {e : WE} {ρ : Ev'} {P : List PyData → Lh → Prop} {ds acc : List PyData} {h : Lh} (p : lcL keep g t e ρ P ds acc h) : keep h := by
  cases ds <;> exact p.1
theorem Sim.hidUpd {N : Addr → Prop} {H : Hp} {h : Lh} {p : Addr} {u : HO} (S : Sim K N H h) (n : N p) : Sim K N (L2.upd H p u) h := by
  have f : ∀ a o, H a = some o → h a = none → ¬ N a → L2.upd H p u a = some o ∧ h a = none ∧ ¬ N a := fun a o e1 e2 e3 => ⟨by rw [upd_ne (fun z => e3 (by rw [z]; exact n))]; exact e1, e2, e3⟩
  refine ⟨fun a o q => ?_, fun a z => ?_⟩
  · obtain ⟨n', u', e, k⟩ := S.at_ a o q
    exact ⟨n', u', by rw [upd_ne (fun z => n' (by rw [z]; exact n))]; exact e, k.mono (fun v d => Rl.trN f) (fun v d => Rls.trN f)⟩
  · by_cases c : a = p
    · subst c; rw [upd_same]; intro z; cases z
    · rw [upd_ne c]; exact S.hid a z
instance {ti : TI} {tg : TG} {tt : TT} {te : TE} {s : WI} {g : WG} {t : WT} {e : WE} [I : RI K XX ti s] [G : RGC K XX vs tg g] [T : RT K XX tt t] [E : RE K XX te e] : RN K XX (tLc ti tg tt te vs) (wLc s g t e vs) := ⟨fun {N σ H ρ h P Q} S En0 p k =>
  I.run S En0 p fun J H2 h2 ds keep Gd Y t2 S2 p2 W hG hY D hD => by
    have hN : ∀ a, (N a ∨ a = D) → N a ∨ H2 a = none := fun a z => z.imp id fun e => by rw [e]; exact hD
    have hD0 : H D = none := t2.n D hD
    have hN0 : ∀ a, (N a ∨ a = D) → N a ∨ H a = none := fun a z => z.imp id fun e => by rw [e]; exact hD0
    have tN : Tr H2 h2 (L2.upd H2 D (.lst [])) h2 := Tr.new hD
    refine lc_it W (fun i H' => ∃ h' acc accd, H' D = some (.lst acc) ∧ Tr H2 h2 H' h' ∧ Sx K XX (fun a => N a ∨ a = D) H' h' ∧ Rls K (fun a => N a ∨ a = D) H' h' acc accd ∧ lcL keep g t e (wipeD ρ vs) P (ds.drop i) accd h')
      ⟨h2, [], [], upd_same, tN, S2.more hD, .nil, p2⟩ (fun i H' _ ⟨h', acc, accd, q1, q2, q3, q4, q5⟩ => hG _ H' h' hN q2 q3 (lcL_keep q5)) (fun i x H' H4 hi ⟨h', acc, accd, q1, q2, q3, q4, q5⟩ y => ?_) fun H' ⟨h', acc, accd, q1, q2, q3, q4, q5⟩ => ?_
    · obtain ⟨d, hd, t4, _, S4, r4⟩ := hY _ i H' h' x H4 hN q2 q3 (lcL_keep q5) y
      have hdr : ds.drop i = d :: ds.drop (i + 1) := by
        have hl : i < ds.length := hi
        rw [List.drop_eq_getElem_cons hl]
        have : ds[i] = d := by simpa [hl] using hd
        rw [this]
      rw [hdr] at q5
      have E4 : En K (fun a => N a ∨ a = D) H4 h' (wipe σ vs) (wipeD ρ vs) := (((En0.mono (fun v d => Rl.hid hN0)).tr (t2.trans (q2.trans t4)))).wipe vs
      have hDn : ∀ {H' : Hp} {h' : Lh}, Sx K XX (fun a => N a ∨ a = D) H' h' → h' D = none := fun {H' h'} S' => by
        cases z : h' D with
        | none => rfl
        | some o => exact absurd (.inr rfl) (S'.at_ D o z).1
      refine G.run S4 E4 r4 q5.2.2 fun σ5 ρ5 E5 w5 p5 => ⟨by rw [w5, wipe_twice], T.run S4 E5 p5 fun b H6 h6 t6 S6 p6 => p6.on (fun z => ?_) fun z => ?_⟩
      · refine E.run S6 (E5.tr t6) z fun v d7 H7 h7 t7 S7 r7 p7 => ?_
        have tt := (t4.trans t6).trans t7
        have q17 : H7 D = some (.lst acc) := (tt.k D _ q1 (hDn q3)).1
        have tD : Tr H2 h2 (L2.upd H7 D (.lst (acc ++ [v]))) h7 := ⟨fun a o e1 e2 => by
          have ne : a ≠ D := fun z => by rw [z, hD] at e1; cases e1
          obtain ⟨z1, z2⟩ := (q2.trans tt).k a o e1 e2
          exact ⟨by rw [upd_ne ne]; exact z1, z2⟩, fun a e1 => (q2.trans tt).n a (upd_none e1)⟩
        refine ⟨acc, q17, sz_lt (by rw [q4.length]; exact q5.2.1), h7, acc ++ [v], accd ++ [d7], upd_same, tD, ⟨S7.toSim.hidUpd (.inr rfl), (S2.x.tr tD).hid fun a z => .inl z⟩, ?_, p7⟩
        · have f : ∀ a o, H7 a = some o → h7 a = none → ¬ (N a ∨ a = D) → L2.upd H7 D (.lst (acc ++ [v])) a = some o ∧ h7 a = none ∧ ¬ (N a ∨ a = D) := fun a o e1 e2 e3 => ⟨by rw [upd_ne (fun z => e3 (.inr z))]; exact e1, e2, e3⟩
          exact ((q4.tr tt).trN f).append (.cons (r7.trN f) .nil)
      · have tt := t4.trans t6
        exact ⟨h6, acc, accd, (tt.k D _ q1 (hDn q3)).1, q2.trans tt, S6, q4.tr tt, z⟩
    · rw [List.drop_length] at q5
      exact k D acc accd H' h' hD0 (t2.trans q2) q3 q1 q4 q5.2⟩
/-! ### enumerate, zip -/
@[simp] def wIEnum (a : WA) : WI := fun ρ h P => a ρ h fun es h1 => ∃ d ds, es = [d] ∧ lv h1 d = some ds ∧ P (Pd.numbered 0 ds) (fun h3 => lv h3 d = some ds) h1
instance {ta : TA} {a : WA} [A : RA K XX ta a] : RI K XX (iEnum K ta) (wIEnum a) := ⟨fun {N σ H ρ h P R} S E p k => A.run S E p fun vs es H1 h1 t1 S1 r1 ⟨d, ds, e0, e, p1⟩ => by
  subst e0
  obtain ⟨v, rfl, rv⟩ := r1.one
  obtain ⟨q, xs, rfl, t, rs⟩ := rv.lv S1 e
  have at3 : ∀ (N' : Addr → Prop) (H3 : Hp) (h3 : Lh), (∀ a, N' a → N a ∨ H1 a = none) → Tr H1 h1 H3 h3 → Sx K XX N' H3 h3 → lv h3 d = some ds → ∃ ys, SqL K H3 q ys ∧ Rls K N' H3 h3 ys ds := fun N' H3 h3 hN t3 S3 e3 => by
    obtain ⟨q', ys, e', z, r3⟩ := ((rv.hid hN).tr t3).lv S3 e3
    cases e'
    exact ⟨ys, z, r3⟩
  refine ⟨q, xs, rfl, t, k _ H1 h1 (Pd.numbered 0 ds) _ (fun H => ∃ xs, SqL K H q xs ∧ xs.length = ds.length) (fun i H v H' => ∃ T x, v = .ref T ∧ H T = none ∧ H' = upd H T (.tup [.int (i : Nat), x]) ∧ ∀ xs, SqL K H q xs → xs[i]? = some x) t1 S1 p1 (by
    rw [Pd.numbered_length]
    exact ⟨fun i H hi ⟨xs, s, l⟩ => ⟨xs, xs[i]'(by omega), s, by simp [show i < xs.length by omega]⟩, fun H ⟨xs, s, l⟩ => ⟨xs, s, by omega⟩, fun i H x H' hi _ y => y⟩) (fun N' H3 h3 hN t3 S3 kp => ?_) fun N' i H3 h3 x H4 hN t3 S3 kp yy => ?_⟩
  · obtain ⟨ys, z, r3⟩ := at3 N' H3 h3 hN t3 S3 kp
    exact ⟨ys, z, r3.length⟩
  · obtain ⟨ys, z, r3⟩ := at3 N' H3 h3 hN t3 S3 kp
    obtain ⟨T, y, rfl, hT, rfl, hx⟩ := yy
    obtain ⟨d', hd, r⟩ := r3.get (hx ys z)
    have := Pd.numbered_get ds 0 i d' hd
    rw [Nat.zero_add] at this
    exact ⟨_, this, Tr.new hT, Ex.new hT, S3.new hT, .tup (.inl ⟨upd_same, S3.hn hT, S3.nn hT⟩) (.cons (.int _) (.cons (r.tr (Tr.new hT)) .nil))⟩⟩
@[simp] def wIZipS (a : WA) : WI := fun ρ h P => a ρ h fun es h1 => ∃ z d ds, es = [.str z, d] ∧ tv d = some ds ∧ z.cps.all (· < 128) = true ∧ z.cps.size = ds.length ∧ P (Pd.pairs (Pd.signs z) ds) (fun _ => True) h1
instance {ta : TA} {a : WA} [A : RA K XX ta a] : RI K XX (iZipS K ta) (wIZipS a) := ⟨fun {N σ H ρ h P R} S E p k => A.run S E p fun vs es H1 h1 t1 S1 r1 ⟨z, d, ds, e0, e, hasc, hl, p1⟩ => by
  subst e0
  obtain ⟨v, u, rfl, rv, ru⟩ := r1.two
  obtain ⟨q, xs, rfl, t, rs⟩ := ru.tup' e
  have hn : (Pd.pairs (Pd.signs z) ds).length = xs.length := by simp [Pd.pairs, Pd.signs, rs.length, hl]
  refine ⟨z, q, xs, by rw [rv.s], hasc, t.sq, k _ H1 h1 _ _ (fun H => SqT K H q xs) _ t1 S1 p1 (by rw [hn]; exact walk_zipS (by rw [rs.length]; exact hl)) (fun N' H3 h3 _ t3 _ _ => t.tr (N' := N) t3) fun N' i H3 h3 x H4 hN t3 S3 _ yy => ?_⟩
  obtain ⟨T, c, y, rfl, hT, rfl, hc, hy⟩ := yy
  obtain ⟨d', hd, r⟩ := rs.get hy
  refine ⟨.tuple [.str ⟨#[c]⟩, d'], ?_, Tr.new hT, Ex.new hT, S3.new hT, .tup (.inl ⟨upd_same, S3.hn hT, S3.nn hT⟩) (.cons (.str _) (.cons (((r.hid hN).tr t3).tr (Tr.new hT)) .nil))⟩
  have hs : (Pd.signs z)[i]? = some (.str ⟨#[c]⟩) := by
    unfold Pd.signs
    rw [List.getElem?_map]
    have : z.cps.toList[i]? = some c := by simpa using hc
    rw [this]; rfl
  unfold Pd.pairs
  rw [List.getElem?_map, Pd.zip_get hs hd]; rfl⟩
end
end Wl
set_option Elab.async false
set_option linter.all false
set_option maxRecDepth 100000
set_option maxHeartbeats 2000000
/-! Wf: defs over the plain layer. -/
namespace Wl
open PySem PySem.Spec PyProof.Rows L2 Evl Pd
section
variable {K : PySem.W.Frag} {XX : XP}
theorem SpX.enter {D : DX} {t : TS} {w : (Ev' → Addr → List (Str × PyData) → Lh → Prop) → WS} {E : XK} [R : ∀ X, RS K ⟨fun _ => E, X⟩ t (w X)] {vs : List V} {H : Hp} {Q : VK} {NM : List Str} (hs : SpX K D vs H Q E) (hw : ∀ ds h P X, D ds h P X → w (fun _ => X) { nx := fun _ h' => P .none h', rt := P } (startD NM ds) h) : t { nx := fun _ H' => Q .non H', rt := Q } (L2.start NM vs) H := by
  obtain ⟨N, h, ds, P, X, S, r, d, k⟩ := hs
  exact (R _).run S (En.start r) (hw ds h P X d) ⟨fun σ ρ H' h' t S' E p => k _ _ _ _ t S' .non p, k, fun σ ρ H' h' t S' E p => p.elim, fun σ ρ H' h' t S' E p => p.elim⟩
theorem SpW.enter {D : List PyData → Lh → Wv → Prop} {t : TS} {w : WS} {E : XK} [R : RS K ⟨fun _ => E, fun _ _ _ _ => False⟩ t w] {vs : List V} {H : Hp} {Q : VK} {NM : List Str} (hs : SpW K D vs H Q E) (hw : ∀ ds h P, D ds h P → w { nx := fun _ h' => P .none h', rt := P } (startD NM ds) h) : t { nx := fun _ H' => Q .non H', rt := Q } (L2.start NM vs) H := by
  obtain ⟨N, h, ds, P, X, S, r, d, k⟩ := hs
  have k' : Ko K ⟨fun _ => E, fun _ _ _ _ => False⟩ N H h P Q := fun v d H' h' t S' r p => k v d H' h' t (S.to t S'.toSim) r p
  exact R.run (Sx.noX S.toSim) (En.start r) (hw ds h P d) ⟨fun σ ρ H' h' t S' E p => k' _ _ _ _ t S' .non p, k', fun σ ρ H' h' t S' E p => p.elim, fun σ ρ H' h' t S' E p => p.elim⟩
/-- mutable things that were made meanwhile are forgotten -/
theorem SpW.enterF {D : List PyData → Lh → Wv → Prop} {t : TS} {w : WS} {E : XK} [R : RS K ⟨fun _ => E, fun _ _ _ _ => False⟩ t w] {vs : List V} {H : Hp} {Q : VK} {NM : List Str} (hs : SpW K D vs H Q E)
    (hw : ∀ ds h P, D ds h P → w { nx := fun _ h' => (∀ a o, h a = some o → h' a = some o) ∧ P .none h, rt := fun d h' => (∀ a o, h a = some o → h' a = some o) ∧ P d h } (startD NM ds) h) : t { nx := fun _ H' => Q .non H', rt := Q } (L2.start NM vs) H := by
  obtain ⟨N, h, ds, P, X, S, r, d, k⟩ := hs
  have k' : Ko K ⟨fun _ => E, fun _ _ _ _ => False⟩ N H h (fun d h' => (∀ a o, h a = some o → h' a = some o) ∧ P d h) Q := fun v d H' h' t S' r p => by
    have t2 : Tr H h H' h := t.trans (Tr.drop p.1)
    exact k v d H' h t2 (S.to t2 (S'.toSim.drop p.1)) (r.tr (Tr.drop p.1)) p.2
  exact R.run (Sx.noX S.toSim) (En.start r) (hw ds h P d) ⟨fun σ ρ H' h' t S' E p => k' _ _ _ _ t S' .non p, k', fun σ ρ H' h' t S' E p => p.elim, fun σ ρ H' h' t S' E p => p.elim⟩
theorem k_psfld {X : Cx} {K : PySem.W.Frag} (hK : X.K = K) {o value : Expr} {f : Str} {pos pos' : Pos} {ta tv : TE} (ha : PE X o ta) (hv : PE X value tv) (hs : swapsWith value (some (.Attribute o f pos')) pos.line X.env = pure false) : PS X (.Assign [.Attribute o f pos'] value pos) (sFld K ta tv f) := by subst hK; exact ps_fld ha hv hs
theorem ps_asgRef {X : Cx} {st : Stmt} {te : TE} {g : TG} (h : PS X st (tAsg te g)) : PS X st (tAsg (tRef te) g) := h
/-- + and * of lists -/
@[simp] def fRepN (d e : PyData) (h : Lh) (P : List PyData → Lh → Prop) : Prop := ∃ ds n, isSc d = false ∧ lv h d = some ds ∧ e = .int n ∧ n ≤ 1000000 ∧ -1000000 ≤ n ∧ ds.length * n.toNat ≤ 100000 ∧ P (List.replicate n.toNat ds).flatten h
theorem Rls.rep {N : Addr → Prop} {H : Hp} {h : Lh} {xs : List V} {ds : List PyData} (r : Rls K N H h xs ds) : ∀ n : Nat, Rls K N H h (List.replicate n xs).flatten (List.replicate n ds).flatten
  | 0 => .nil
  | n + 1 => by
    rw [List.replicate_succ, List.flatten_cons, List.replicate_succ, List.flatten_cons]
    exact r.append (Rls.rep r n)
instance : R2N K rRep fRepN := ⟨fun S a c ⟨ds, n, c1, e1, e2, l1, l2, z, p⟩ k => by
  subst e2
  obtain ⟨q, xs, rfl, t1, r1⟩ := a.lvo S e1 c1
  exact ⟨q, n, xs, rfl, c.i, t1, by omega, by omega, sz_of (by rw [r1.length]; exact z), fun r hr => k.new S hr (r1.rep _) p⟩⟩
@[simp] def fRepT (d e : PyData) (h : Lh) (P : Wv) : Prop := ∃ ds n, tv d = some ds ∧ ds ≠ [] ∧ e = .int n ∧ 0 ≤ n ∧ n ≤ 1000 ∧ ds.length ≤ 1000 ∧ P (.tuple (List.replicate n.toNat ds).flatten) h
instance : R2W K (rRepA K) fRepT := ⟨fun S a c ⟨ds, n, e1, ne, e2, l1, l2, l3, p⟩ k => by
  subst e2
  obtain ⟨q, xs, rfl, t, rs⟩ := a.tup' e1
  refine ⟨q, n, xs, rfl, c.i, t.sq, fun z => ?_, l1, l2, by rw [rs.length]; exact l3, fun z => ?_, fun r hr => k.tup S hr (rs.rep _) p⟩
  · subst z; cases rs; exact ne rfl
  · subst z
    have e3 : (List.replicate (1 : Int).toNat ds).flatten = ds := by simp
    rw [e3] at p
    exact k.at S (.tup t rs) p⟩
end
section
variable {P : Program} {w : World} {K : PySem.W.Frag} {mg : Str → Option Value} {base : Heap}
theorem Cal.weak {CX : CXT} {k : Nat} {x : Str} {ps : List Str} {sp sp' : Sp} (C : Cal P w K mg base CX k x ps sp) (f : ∀ vs H Q E, sp' vs H Q E → sp vs H Q E) : Cal P w K mg base CX k x ps sp' := by
  obtain ⟨g, fd, h1, h2, h3, h4⟩ := C.ex
  exact ⟨g, fd, h1, h2, h3, ⟨fun vs H Q E z => h4.len vs H Q E (f _ _ _ _ z), fun A outer s H c us vs Q E a b d e z => h4.run A outer s H c us vs Q E a b d e (f _ _ _ _ z)⟩⟩
end
/-! ### tables of the text -/
class KTab (K : PySem.W.Frag) (w : World) (p : Addr) (look : outParam (Str → Option Str)) : Prop where
  at_ : ∀ z, ∃ r : Option Value, PySem.W.nsIn K p z = some r ∧ r.isSome = (look z).isSome ∧ ∀ f, look z = some f → KDct K w p z (.str f)
@[simp] def wTabNot (look : Str → Option Str) (a : WE) : WE := fun ρ h P => a ρ h fun d h1 => ∃ z, d = .str z ∧ P (.bool (!(look z).isSome)) h1
@[simp] def wTabIx (look : Str → Option Str) (a : WE) : WE := fun ρ h P => a ρ h fun d h1 => ∃ z v, d = .str z ∧ look z = some v ∧ P (.str v) h1
section
variable {K : PySem.W.Frag} {XX : XP} {w : World}
theorem tab_not (w : World) {p : Addr} {look : Str → Option Str} [B : KTab K w p look] {ta : TE} {a : WE} [A : RE K XX ta a] : RE K XX (tOp (rNotInKd K p) ta (tC (.ref p))) (wTabNot look a) := ⟨fun S E q k => A.run S E q fun v d H1 h1 t1 S1 r1 ⟨z, e, q1⟩ => by
  subst e
  obtain ⟨r, e1, e2, _⟩ := B.at_ z
  exact ⟨z, r, r1.s, rfl, e1, by rw [e2]; exact (k.tr t1).at S1 (.bl _) q1⟩⟩
instance (priority := high) {p : Addr} {look : Str → Option Str} [B : KTab K w p look] {ta : TE} {a : WE} [A : RE K XX ta a] : RE K XX (tOp (rIxD K w) (tC (.ref p)) ta) (wTabIx look a) := ⟨fun S E q k => A.run S E q fun v d H1 h1 t1 S1 r1 ⟨z, f, e, e2, q1⟩ => by
  subst e
  obtain ⟨r, _, _, e4⟩ := B.at_ z
  exact ⟨p, z, .str f, rfl, r1.s, e4 f e2, (k.tr t1).at S1 (.str f) q1⟩⟩
end
@[simp] theorem andA {a b c : Prop} : ((a ∧ b) ∧ c) = (a ∧ b ∧ c) := propext and_assoc
@[simp] theorem ln_1_0 {n : Nat} : ((n : Int) + 1 = 0) = False := by
  apply propext
  exact ⟨fun h => by omega, fun h => h.elim⟩
@[simp] theorem ln_2_0 {n : Nat} : ((n : Int) + 1 + 1 = 0) = False := by
  apply propext
  exact ⟨fun h => by omega, fun h => h.elim⟩
@[simp] theorem ln_2_1 {n : Nat} : ((n : Int) + 1 + 1 = 1) = False := by
  apply propext
  exact ⟨fun h => by omega, fun h => h.elim⟩
@[simp] theorem ln_3_0 {n : Nat} : ((n : Int) + 1 + 1 + 1 = 0) = False := by
  apply propext
  exact ⟨fun h => by omega, fun h => h.elim⟩
@[simp] theorem ln_3_1 {n : Nat} : ((n : Int) + 1 + 1 + 1 = 1) = False := by
  apply propext
  exact ⟨fun h => by omega, fun h => h.elim⟩
@[simp] theorem ln_3_2 {n : Nat} : ((n : Int) + 1 + 1 + 1 = 2) = False := by
  apply propext
  exact ⟨fun h => by omega, fun h => h.elim⟩
@[simp] theorem ln_4_0 {n : Nat} : ((n : Int) + 1 + 1 + 1 + 1 = 0) = False := by
  apply propext
  exact ⟨fun h => by omega, fun h => h.elim⟩
@[simp] theorem ln_4_1 {n : Nat} : ((n : Int) + 1 + 1 + 1 + 1 = 1) = False := by
  apply propext
  exact ⟨fun h => by omega, fun h => h.elim⟩
@[simp] theorem ln_4_2 {n : Nat} : ((n : Int) + 1 + 1 + 1 + 1 = 2) = False := by
  apply propext
  exact ⟨fun h => by omega, fun h => h.elim⟩
@[simp] theorem ln_4_3 {n : Nat} : ((n : Int) + 1 + 1 + 1 + 1 = 3) = False := by
  apply propext
  exact ⟨fun h => by omega, fun h => h.elim⟩
@[simp] theorem ln_5_0 {n : Nat} : ((n : Int) + 1 + 1 + 1 + 1 + 1 = 0) = False := by
  apply propext
  exact ⟨fun h => by omega, fun h => h.elim⟩
@[simp] theorem ln_5_1 {n : Nat} : ((n : Int) + 1 + 1 + 1 + 1 + 1 = 1) = False := by
  apply propext
  exact ⟨fun h => by omega, fun h => h.elim⟩
@[simp] theorem ln_5_2 {n : Nat} : ((n : Int) + 1 + 1 + 1 + 1 + 1 = 2) = False := by
  apply propext
  exact ⟨fun h => by omega, fun h => h.elim⟩
@[simp] theorem ln_5_3 {n : Nat} : ((n : Int) + 1 + 1 + 1 + 1 + 1 = 3) = False := by
  apply propext
  exact ⟨fun h => by omega, fun h => h.elim⟩
@[simp] theorem ln_5_4 {n : Nat} : ((n : Int) + 1 + 1 + 1 + 1 + 1 = 4) = False := by
  apply propext
  exact ⟨fun h => by omega, fun h => h.elim⟩
@[simp] theorem ln_6_0 {n : Nat} : ((n : Int) + 1 + 1 + 1 + 1 + 1 + 1 = 0) = False := by
  apply propext
  exact ⟨fun h => by omega, fun h => h.elim⟩
@[simp] theorem ln_6_1 {n : Nat} : ((n : Int) + 1 + 1 + 1 + 1 + 1 + 1 = 1) = False := by
  apply propext
  exact ⟨fun h => by omega, fun h => h.elim⟩
@[simp] theorem ln_6_2 {n : Nat} : ((n : Int) + 1 + 1 + 1 + 1 + 1 + 1 = 2) = False := by
  apply propext
  exact ⟨fun h => by omega, fun h => h.elim⟩
@[simp] theorem ln_6_3 {n : Nat} : ((n : Int) + 1 + 1 + 1 + 1 + 1 + 1 = 3) = False := by
  apply propext
  exact ⟨fun h => by omega, fun h => h.elim⟩
@[simp] theorem ln_6_4 {n : Nat} : ((n : Int) + 1 + 1 + 1 + 1 + 1 + 1 = 4) = False := by
  apply propext
  exact ⟨fun h => by omega, fun h => h.elim⟩
@[simp] theorem ln_6_5 {n : Nat} : ((n : Int) + 1 + 1 + 1 + 1 + 1 + 1 = 5) = False := by
  apply propext
  exact ⟨fun h => by omega, fun h => h.elim⟩
@[simp] theorem cpow_18 : CPow 10 18 = True := eq_true ⟨by decide, by decide, by decide⟩
@[simp] theorem cpow_9 : CPow 10 9 = True := eq_true ⟨by decide, by decide, by decide⟩
/-! ### places -/
@[simp] theorem atI_0 {α : Type} {a : α} {l : List α} : atI (a :: l) 0 = some a := atI_nat (j := 0) rfl
@[simp] theorem atI_1 {α : Type} {a b : α} {l : List α} : atI (a :: b :: l) 1 = some b := atI_nat (j := 1) rfl
@[simp] theorem atI_2 {α : Type} {a b c : α} {l : List α} : atI (a :: b :: c :: l) 2 = some c := atI_nat (j := 2) rfl
@[simp] theorem atI_3 {α : Type} {a b c d : α} {l : List α} : atI (a :: b :: c :: d :: l) 3 = some d := atI_nat (j := 3) rfl
@[simp] theorem atI_4 {α : Type} {a b c d e : α} {l : List α} : atI (a :: b :: c :: d :: e :: l) 4 = some e := atI_nat (j := 4) rfl
@[simp] theorem ixN_z {n : Nat} : ixN (n + 1) 0 = some 0 := ixN_nat (j := 0) (by omega)
@[simp] theorem ixN_o {n : Nat} : ixN (n + 2) 1 = some 1 := ixN_nat (j := 1) (by omega)
@[simp] theorem seqIndex_z {n : Nat} : seqIndex? 0 (n + 1) = some 0 := by
  simp [seqIndex?]
@[simp] theorem cutD_1 {l : List PyData} : Pd.cutD l (some 1) none = l.drop 1 := Pd.cutD_from 1 l
@[simp] theorem cutD_2 {l : List PyData} : Pd.cutD l (some 2) none = l.drop 2 := Pd.cutD_from 2 l
@[simp] theorem cutD_t1 {l : List PyData} : Pd.cutD l none (some 1) = l.take 1 := Pd.cutD_to 1 l
@[simp] theorem cutD_t2 {l : List PyData} : Pd.cutD l none (some 2) = l.take 2 := Pd.cutD_to 2 l
@[simp] theorem cutD_t3 {l : List PyData} : Pd.cutD l none (some 3) = l.take 3 := Pd.cutD_to 3 l
@[simp] theorem cutD_n {l : List PyData} {n : Nat} : Pd.cutD l (some (n : Int)) none = l.drop n := Pd.cutD_from n l
@[simp] theorem cutD_tn {l : List PyData} {n : Nat} : Pd.cutD l none (some (n : Int)) = l.take n := Pd.cutD_to n l
@[simp] theorem cutD_i {l : List PyData} : Pd.cutD l none (some (-1)) = l.dropLast := Pd.cutD_init l
/-! ### loops by what holds of the rest -/
theorem forL_run {keep : Lh → Prop} {g : WG} {b : WS} {E : WEnds} (I : List PyData → Ev' → Lh → Prop)
    (hs : ∀ d ds ρ h, I (d :: ds) ρ h → keep h ∧ ∀ F : Ev' → Lh → Prop, (∀ ρ h, I ds ρ h → F ρ h) → g d ρ h fun ρ1 h1 => b { nx := F, rt := E.rt, bk := E.nx, ct := F } ρ1 h1)
    (hd : ∀ ρ h, I [] ρ h → keep h ∧ E.nx ρ h) : ∀ {ds ρ h}, I ds ρ h → forL keep g b E ds ρ h
  | [], _, _, i => hd _ _ i
  | d :: ds, _, _, i => ⟨(hs _ _ _ _ i).1, (hs _ _ _ _ i).2 _ fun _ _ j => forL_run I hs hd j⟩
theorem whN_run {t : WT} {b : WS} {E : WEnds} (I : Nat → Ev' → Lh → Prop)
    (hs : ∀ n ρ h, I n ρ h → ∀ F : Ev' → Lh → Prop, (∀ m ρ h, m < n → I m ρ h → F ρ h) → t ρ h fun c h1 => wCond c (b { nx := F, rt := E.rt, bk := E.nx, ct := F } ρ h1) (E.nx ρ h1)) :
    ∀ n m ρ h, m ≤ n → I m ρ h → whN t b E (n + 1) ρ h
  | 0, m, ρ, h, l, i => hs _ _ _ i _ fun m' _ _ q _ => absurd q (by omega)
  | n + 1, m, ρ, h, l, i => hs _ _ _ i _ fun m' ρ' h' q j => whN_run I hs n m' ρ' h' (by omega) j
theorem wWhile_run {t : WT} {b : WS} {E : WEnds} {ρ : Ev'} {h : Lh} (I : Nat → Ev' → Lh → Prop) (n : Nat) (i : I n ρ h)
    (hs : ∀ n ρ h, I n ρ h → ∀ F : Ev' → Lh → Prop, (∀ m ρ h, m < n → I m ρ h → F ρ h) → t ρ h fun c h1 => wCond c (b { nx := F, rt := E.rt, bk := E.nx, ct := F } ρ h1) (E.nx ρ h1)) : wWhile t b E ρ h := ⟨n + 1, whN_run I hs n n ρ h (Nat.le_refl _) i⟩
theorem lcL_run {keep : Lh → Prop} {g : WG} {t : WT} {e : WE} {ρ : Ev'} {P : List PyData → Lh → Prop} (I : List PyData → List PyData → Lh → Prop)
    (hs : ∀ d ds acc h, I (d :: ds) acc h → keep h ∧ acc.length < 100000 ∧ ∀ F : List PyData → Lh → Prop, (∀ acc h, I ds acc h → F acc h) → g d ρ h fun ρ1 h1 => t ρ1 h1 fun b h2 => wCond b (e ρ1 h2 fun x h3 => F (acc ++ [x]) h3) (F acc h2))
    (hd : ∀ acc h, I [] acc h → keep h ∧ P acc h) : ∀ {ds acc h}, I ds acc h → lcL keep g t e ρ P ds acc h
  | [], _, _, i => hd _ _ i
  | d :: ds, _, _, i => ⟨(hs _ _ _ _ i).1, (hs _ _ _ _ i).2.1, (hs _ _ _ _ i).2.2 _ fun _ _ j => lcL_run I hs hd j⟩
/-- each thing gives one -/
theorem lcL_map {α : Type} {keep : Lh → Prop} {g : WG} {e : WE} {ρ : Ev'} {P : List PyData → Lh → Prop} {h : Lh} {l : List α} {emb : α → PyData} (f : α → PyData) (hk : keep h) (hz : l.length ≤ 100000)
    (hs : ∀ a ∈ l, ∀ F : PyData → Lh → Prop, F (f a) h → g (emb a) ρ h fun ρ1 h1 => e ρ1 h1 F) (hd : P (l.map f) h) : lcL keep g wYes e ρ P (l.map emb) [] h := by
  have key : ∀ (m k : List α), k ++ m = l → lcL keep g wYes e ρ P (m.map emb) (k.map f) h := by
    intro m
    induction m with
    | nil => intro k q; rw [List.append_nil] at q; subst q; exact ⟨hk, hd⟩
    | cons a m ih =>
      intro k q
      refine ⟨hk, by rw [List.length_map]; have := congrArg List.length q; simp at this; omega, ?_⟩
      have ih' := ih (k ++ [a]) (by rw [List.append_assoc]; exact q)
      rw [List.map_append] at ih'
      have hm : a ∈ l := by rw [← q]; simp
      have := hs a hm (fun x h3 => lcL keep g wYes e ρ P (m.map emb) (k.map f ++ [x]) h3) ih'
      simp only [wYes, wCond_t]
      exact this
  exact key l [] rfl
/-! ### the tape -/
structure TapeOk (t c : Addr) (h : Lh) : Prop where
  ne : c ≠ t
  tp : ∃ s : Int, h t = some (.lst [rf c, .int s]) ∧ 0 ≤ s ∧ s < 2147483647
  ce : ∃ ns : List Int, h c = some (.lst (ns.map .int)) ∧ ns.length ≤ 63 ∧ ∀ n ∈ ns, 0 ≤ n
/-- behind a draw -/
structure TapeGo (t c : Addr) (h h' : Lh) : Prop where
  ok : TapeOk t c h'
  fr : ∀ a o, a ≠ t → a ≠ c → h a = some o → h' a = some o
theorem TapeGo.refl {t c : Addr} {h : Lh} (T : TapeOk t c h) : TapeGo t c h h := ⟨T, fun _ _ _ _ e => e⟩
theorem TapeGo.trans {t c : Addr} {h h1 h2 : Lh} (a : TapeGo t c h h1) (b : TapeGo t c h1 h2) : TapeGo t c h h2 := ⟨b.ok, fun x o n1 n2 e => b.fr x o n1 n2 (a.fr x o n1 n2 e)⟩
theorem TapeOk.ex {t c : Addr} {h h' : Lh} (T : TapeOk t c h) (f : ∀ a o, h a = some o → h' a = some o) : TapeOk t c h' := by
  obtain ⟨ne, ⟨s, e, b⟩, ns, e2, b2⟩ := T
  exact ⟨ne, ⟨s, f _ _ e, b⟩, ns, f _ _ e2, b2⟩
/-- something is made meanwhile -/
theorem TapeGo.ex {t c : Addr} {h h' : Lh} (T : TapeOk t c h) (f : ∀ a o, h a = some o → h' a = some o) : TapeGo t c h h' := ⟨T.ex f, fun a o _ _ e => f a o e⟩
theorem up_ex {h : Lh} {p : Addr} {o : LO} (n : h p = none) : ∀ a u, h a = some u → up h p o a = some u := fun a u z => by rw [up_ne (fun q => by rw [q, n] at z; cases z)]; exact z
theorem TapeOk.has {t c : Addr} {h : Lh} (T : TapeOk t c h) : (∃ o, h t = some o) ∧ ∃ o, h c = some o := by
  obtain ⟨ne, ⟨s, e, b⟩, ns, e2, b2⟩ := T
  exact ⟨⟨_, e⟩, _, e2⟩
/-- another object is written meanwhile -/
theorem TapeOk.put {t c p : Addr} {h : Lh} {o : LO} (T : TapeOk t c h) (n1 : p ≠ t) (n2 : p ≠ c) : TapeOk t c (up h p o) := by
  obtain ⟨ne, ⟨s, e, b⟩, ns, e2, b2⟩ := T
  exact ⟨ne, ⟨s, by rw [up_ne (Ne.symm n1)]; exact e, b⟩, ns, by rw [up_ne (Ne.symm n2)]; exact e2, b2⟩
def D_tape (ds : List PyData) (h : Lh) (P : Wv) : Prop := ∃ ns : List Int, ds = [.dict [(.none, .tuple (ns.map .int))]] ∧ ns.length ≤ 63 ∧ ∀ t c h', h t = none → h c = none → TapeGo t c h h' → P (rf t) h'
def D_draw (ds : List PyData) (h : Lh) (P : Wv) : Prop := ∃ (t c : Addr) (m : Nat), ds = [rf t, .int (m : Nat)] ∧ TapeOk t c h ∧ 1 ≤ m ∧ m ≤ 1000 ∧ ∀ r : Nat, r < m → ∀ h', TapeGo t c h h' → P (.int (r : Nat)) h'
theorem D_draw_run {t c : Addr} {m : Nat} {h : Lh} {P : Wv} (T : TapeOk t c h) (h1 : 1 ≤ m) (h2 : m ≤ 1000) (k : ∀ r : Nat, r < m → ∀ h', TapeGo t c h h' → P (.int (r : Nat)) h') : D_draw [rf t, .int (m : Nat)] h P := ⟨t, c, m, rfl, T, h1, h2, k⟩
def D_pick (ds : List PyData) (h : Lh) (P : Wv) : Prop := ∃ (t c : Addr) (es : List PyData), ds = [rf t, .list es] ∧ TapeOk t c h ∧ es ≠ [] ∧ es.length ≤ 1000 ∧ ∀ x ∈ es, ∀ h', TapeGo t c h h' → P x h'
theorem D_pick_run {t c : Addr} {es : List PyData} {h : Lh} {P : Wv} (T : TapeOk t c h) (h1 : es ≠ []) (h2 : es.length ≤ 1000) (k : ∀ x ∈ es, ∀ h', TapeGo t c h h' → P x h') : D_pick [rf t, .list es] h P := ⟨t, c, es, rfl, T, h1, h2, k⟩
end Wl
set_option Elab.async false
set_option linter.all false
set_option maxRecDepth 100000
set_option maxHeartbeats 2000000
/-! Wg: exceptions over the plain layer. -/
namespace Wl
open PySem PySem.Spec PyProof.Rows L2 Evl Pd
abbrev XB := Addr → List (Str × PyData) → Lh → Prop
abbrev WX' := Ev' → Lh → XB → Prop
class RX (K : PySem.W.Frag) (XX : XP) (t : L2.St → Hp → XK → Prop) (w : outParam WX') : Prop where
  run : ∀ {N : Addr → Prop} {σ : L2.St} {H : Hp} {ρ : Ev'} {h : Lh} {X : XB} {E : XK}, Sx K XX N H h → En K N H h σ ρ → w ρ h X → (∀ C d fs H' h', Tr H h H' h' → Sim K N H' h' → XRel K N H' h' d fs → X C fs h' → E (.ref C) d H') → t σ H E
/-- raise -/
def tRz (t : L2.St → Hp → XK → Prop) (E : L2.St → XK) : TS := fun _ σ H => t σ H (E σ)
@[simp] def wRz (w : WX') (X : Ev' → XB) : WS := fun _ ρ h => w ρ h (X ρ)
theorem k_raise {X : Cx} {E : XK} {e : Expr} {t : L2.St → Hp → XK → Prop} {pos : Pos} (hc : X.calm = true) (tk : Takes X (fun cls d _ H => E cls d H)) (he : PMk X e t) : PS X (.Raise (some e) none pos) (tRz t fun _ => E) := ps_raise hc tk he
theorem k_raiseW {X : Cx} {W : WX} {e : Expr} {t : L2.St → Hp → XK → Prop} {pos : Pos} (hc : X.calm = true) (tk : Takes X W) (he : PMk X e t) : PS X (.Raise (some e) none pos) (tRz t (L2.WE W)) := ps_raise hc tk he
def tMkX (C : Addr) : L2.St → Hp → XK → Prop := fun _ H Q => Q (.ref C) none H
theorem k_mkx {X : Cx} {x : Str} {C : Addr} {p pos : Pos} (T : XCls X.K X.mg x C) (hg : Gl X x) (hdb : (x == ("__debug__" : Str)) = false := by decide) : PMk X (.Call (.Name x p) [] [] pos) (tMkX C) := pmk_x T hg hdb
@[simp] def wMkX (C : Addr) : WX' := fun _ h X => X C [] h
@[simp] def wMkF (C : Addr) (f : Str) (a : WA) : WX' := fun ρ h X => a ρ h fun ds h1 => ∃ d, ds = [d] ∧ X C [(f, d)] h1
section
variable {K : PySem.W.Frag} {XX : XP}
instance {t : L2.St → Hp → XK → Prop} {w : WX'} {E : L2.St → XK} {X : Ev' → XB} [R : RX K ⟨E, X⟩ t w] : RS K ⟨E, X⟩ (tRz t E) (wRz w X) := ⟨fun S e p k => R.run S e p fun C d fs H' h' t S' xr q => S.x _ _ C d fs H' h' t S' (e.tr t) xr q⟩
instance (C : Addr) : RX K XX (tMkX C) (wMkX C) := ⟨fun S e p k => k C none [] _ _ (Tr.refl _ _) S.toSim rfl p⟩
instance {C : Addr} {f : Str} {ta : TA} {a : WA} [A : RA K XX ta a] : RX K XX (tMkO C (sp_fld C f) [] ta) (wMkF C f a) := ⟨fun {N σ H ρ h X E} S e p k =>
  A.run S e p fun vs ds H1 h1 t1 S1 r1 ⟨d0, ed, q⟩ => by
    subst ed
    obtain ⟨v, rfl, rv⟩ := r1.one
    refine ⟨by show 1 ≤ 1000; omega, fun a ha => ⟨a, v, rfl, upd_same, fun dx hdx hne => ⟨rfl, dx, [(f, v)], upd_same, by rw [upd_ne hne, upd_same], ?_, ?_⟩⟩⟩
    · rw [upd_ne hne] at hdx; exact hdx
    · have hd1 : H1 dx = none := by rw [upd_ne hne] at hdx; exact hdx
      have e2 : Ex H1 (L2.upd (L2.del (L2.upd (L2.upd (L2.upd H1 a (exo a C none)) dx (exd dx [(f, v)])) a (exo a C (some dx))) a) dx (.xd [(f, v)])) := fun b o hb => by
        have h1 : b ≠ a := fun z => by rw [z, ha] at hb; cases hb
        have h2 : b ≠ dx := fun z => by rw [z, hd1] at hb; cases hb
        rw [upd_ne h2, del_ne h1, upd_ne h1, upd_ne h2, upd_ne h1]
        exact hb
      exact k C (some dx) [(f, d0)] _ h1 (t1.trans (Tr.ex e2)) (S1.toSim.ex e2) ⟨_, upd_same, .cons ⟨rfl, rv.tr (Tr.ex e2)⟩ .nil⟩ q⟩
end
/-- try .. except C -/
def tTryO (K : PySem.W.Frag) (c : Value) (tb : WX → TS) (ts : Addr → Value → Option Addr → TS) (Wout : WX) : TS := fun D σ H => tb (wOnly K c ts Wout D) D σ H
theorem k_tryO {X : Cx} {K : PySem.W.Frag} (hK : X.K = K) {x : Str} {c : Value} {body suite : List Stmt} {b₀ : Stmt} {np pos pos' : Pos} {tb : WX → TS} {ts : Addr → Value → Option Addr → TS} {Wout : WX} (hs : X.stack = X.env :: X.outer) (hf : X.env.frame = some X.env.locals) (hc : Names X x c) (tk : Takes X Wout)
    (hb : ∀ (W : WX) (pn : List (Addr × Obj)) (xe : Value → Shared → Prop), Takes (X.tr pn xe) W → PassesOwn (model X.prog X.w) X.A X.env xe → PSs (X.tr pn xe) body (tb W))
    (hsu : ∀ (a : Addr) (oe : Obj) (cls : Value) (d : Option Addr) (pn : List (Addr × Obj)), Zc cls d oe → (∃ vs, oe.data = .fields vs) → PSs (X.suite a ((a, oe) :: pn)) (b₀ :: suite) (ts a cls d)) :
    PS X (.Try body [.ExceptHandler (some (.Name x np)) none (b₀ :: suite) pos'] [] [] pos) (tTryO K c tb ts Wout) := by subst hK; exact ps_try_only hs hf hc tk hb hsu
def xTry (K : PySem.W.Frag) (c : Value) (ws : WS) (E : WEnds) (Xo : Ev' → XB) : Ev' → XB := fun ρ C fs h => ∃ b, PySem.W.exmOne K (.ref C) c = some b ∧ wCond b (ws E ρ h) (Xo ρ C fs h)
@[simp] def wTryO (K : PySem.W.Frag) (c : Value) (wb : (Ev' → XB) → WS) (ws : WS) (Xo : Ev' → XB) : WS := fun E ρ h => wb (xTry K c ws E Xo) E ρ h
instance {K : PySem.W.Frag} {XX : XP} {c : Value} {tb : WX → TS} {ts : Addr → Value → Option Addr → TS} {wb : (Ev' → XB) → WS} {ws : WS} [B : ∀ (W : WX) (X : Ev' → XB), RS K ⟨L2.WE W, X⟩ (tb W) (wb X)] [U : ∀ a cls d, RS K XX (ts a cls d) ws] :
    RS K XX (tTryO K c tb ts (fun _ _ _ _ => False)) (wTryO K c wb ws fun _ _ _ _ => False) := ⟨fun {N σ H ρ h E D} S e p k =>
  (B (wOnly K c ts (fun _ _ _ _ => False) D) (xTry K c ws E fun _ _ _ _ => False)).run ⟨S.toSim, fun σ' ρ' C d fs H' h' t S' e' xr ⟨b, eb, cond⟩ => ⟨b, eb, fun hb a ha => (U a (.ref C) d).run (S.to t S') e' (cond.1 hb) (k.tr t), fun hb => (cond.2 hb).elim⟩⟩ e p
    ⟨fun σ' ρ' H' h' t S' => k.nx σ' ρ' H' h' t (S.to t S'.toSim), fun v d H' h' t S' => k.rt v d H' h' t (S.to t S'.toSim), fun σ' ρ' H' h' t S' => k.bk σ' ρ' H' h' t (S.to t S'.toSim), fun σ' ρ' H' h' t S' => k.ct σ' ρ' H' h' t (S.to t S'.toSim)⟩⟩
instance {K : PySem.W.Frag} {E0 : XK} {Xo : Ev' → XB} {c : Value} {tb : WX → TS} {ts : Addr → Value → Option Addr → TS} {wb : (Ev' → XB) → WS} {ws : WS} [B : ∀ (W : WX) (X : Ev' → XB), RS K ⟨L2.WE W, X⟩ (tb W) (wb X)] [U : ∀ a cls d, RS K ⟨fun _ => E0, Xo⟩ (ts a cls d) ws] :
    RS K ⟨fun _ => E0, Xo⟩ (tTryO K c tb ts (fun cls d _ H => E0 cls d H)) (wTryO K c wb ws Xo) := ⟨fun {N σ H ρ h E D} S e p k =>
  (B (wOnly K c ts (fun cls d _ H => E0 cls d H) D) (xTry K c ws E Xo)).run ⟨S.toSim, fun σ' ρ' C d fs H' h' t S' e' xr ⟨b, eb, cond⟩ => ⟨b, eb, fun hb a ha => (U a (.ref C) d).run (S.to t S') e' (cond.1 hb) (k.tr t), fun hb => S.x σ' ρ' C d fs H' h' t S' e' xr (cond.2 hb)⟩⟩ e p
    ⟨fun σ' ρ' H' h' t S' => k.nx σ' ρ' H' h' t (S.to t S'.toSim), fun v d H' h' t S' => k.rt v d H' h' t (S.to t S'.toSim), fun σ' ρ' H' h' t S' => k.bk σ' ρ' H' h' t (S.to t S'.toSim), fun σ' ρ' H' h' t S' => k.ct σ' ρ' H' h' t (S.to t S'.toSim)⟩⟩
/-- for defs with a try: the body's instance is to be given under its binders -/
theorem rs_try {K : PySem.W.Frag} {XX : XP} {c : Value} {tb : WX → TS} {ts : Addr → Value → Option Addr → TS} {wb : (Ev' → XB) → WS} {ws : WS} (B : ∀ (W : WX) (X : Ev' → XB), RS K ⟨L2.WE W, X⟩ (tb W) (wb X)) [U : ∀ a cls d, RS K XX (ts a cls d) ws] :
    RS K XX (tTryO K c tb ts (fun _ _ _ _ => False)) (wTryO K c wb ws fun _ _ _ _ => False) := inferInstance
theorem rs_seq {K : PySem.W.Frag} {XX : XP} {ta tb : TS} {a b : WS} (A : RS K XX ta a) [B : RS K XX tb b] : RS K XX (tSeq ta tb) (wSeq a b) := inferInstance
end Wl
set_option Elab.async false
set_option linter.all false
set_option maxRecDepth 100000
set_option maxHeartbeats 2000000
/-! Wh: dicts over the plain layer (keys: ints and texts). -/
namespace Wl
open PySem PySem.Spec PyProof.Rows L2 Evl Pd
section
variable {κ : Type} [DecidableEq κ]
def valD (kvs : List (κ × PyData)) (k : κ) : Option PyData := (kvs.find? fun kv => decide (kv.1 = k)).map (·.2)
@[simp] theorem valD_nil {k : κ} : valD ([] : List (κ × PyData)) k = none := rfl
@[simp] theorem valD_cons {p : κ × PyData} {r : List (κ × PyData)} {k : κ} : valD (p :: r) k = if p.1 = k then some p.2 else valD r k := by
  unfold valD
  rw [List.find?_cons]
  by_cases h : p.1 = k
  · rw [decide_eq_true h, if_pos h]; rfl
  · rw [decide_eq_false h, if_neg h]
def putD : List (κ × PyData) → κ → PyData → List (κ × PyData)
  | [], k, v => [(k, v)]
  | p :: r, k, v => if p.1 = k then (p.1, v) :: r.map (fun kv => if kv.1 = k then (kv.1, v) else kv) else p :: putD r k v
@[simp] theorem putD_nil {k : κ} {v : PyData} : putD ([] : List (κ × PyData)) k v = [(k, v)] := rfl
theorem putV_nil {k : κ} {v : V} : L2.putK ([] : List (κ × V)) k v = [(k, v)] := rfl
theorem putV_cons {p : κ × V} {r : List (κ × V)} {k : κ} {v : V} : L2.putK (p :: r) k v = if p.1 = k then (p.1, v) :: r.map (fun kv => if kv.1 = k then (kv.1, v) else kv) else p :: L2.putK r k v := by
  unfold L2.putK
  rw [List.any_cons]
  by_cases h : p.1 = k
  · rw [decide_eq_true h, Bool.true_or, if_pos rfl, if_pos h, List.map_cons, if_pos h]
  · rw [decide_eq_false h, Bool.false_or, if_neg h]
    by_cases g : (r.any fun kv => decide (kv.1 = k)) = true
    · rw [if_pos g, if_pos g, List.map_cons, if_neg h]
    · rw [if_neg g, if_neg g]; rfl
variable {K : PySem.W.Frag} {N : Addr → Prop} {H : Hp} {h : Lh}
abbrev KP (κ : Type) (K : PySem.W.Frag) (N : Addr → Prop) (H : Hp) (h : Lh) : List (κ × V) → List (κ × PyData) → Prop := Paired fun (p : κ × V) (q : κ × PyData) => p.1 = q.1 ∧ Rl K N H h p.2 q.2
theorem KP.val {k : κ} : ∀ {xs : List (κ × V)} {ds : List (κ × PyData)}, KP κ K N H h xs ds → (valD ds k = none → valV xs k = none) ∧ ∀ d, valD ds k = some d → ∃ v, valV xs k = some v ∧ Rl K N H h v d
  | _, _, .nil => ⟨fun _ => rfl, fun d e => by cases e⟩
  | (a, x) :: xs, (b, y) :: ds, .cons e r => by
    obtain ⟨e1, e2⟩ := e
    cases e1
    have ih := KP.val (k := k) r
    rw [valD_cons]
    by_cases c : a = k
    · rw [if_pos c, valV_pos c]
      exact ⟨fun z => by (cases z), fun d z => by cases z; exact ⟨_, rfl, e2⟩⟩
    · rw [if_neg c, valV_neg c]; exact ih
theorem KP.map {k : κ} {v : V} {d : PyData} (rv : Rl K N H h v d) : ∀ {xs : List (κ × V)} {ds : List (κ × PyData)}, KP κ K N H h xs ds → KP κ K N H h (xs.map fun kv => if kv.1 = k then (kv.1, v) else kv) (ds.map fun kv => if kv.1 = k then (kv.1, d) else kv)
  | _, _, .nil => .nil
  | (a, x) :: xs, (b, y) :: ds, .cons e r => by
    obtain ⟨e1, e2⟩ := e
    cases e1
    rw [List.map_cons, List.map_cons]
    by_cases c : a = k
    · rw [if_pos c, if_pos c]; exact .cons ⟨rfl, rv⟩ (KP.map rv r)
    · rw [if_neg c, if_neg c]; exact .cons ⟨rfl, e2⟩ (KP.map rv r)
theorem KP.put {k : κ} {v : V} {d : PyData} (rv : Rl K N H h v d) : ∀ {xs : List (κ × V)} {ds : List (κ × PyData)}, KP κ K N H h xs ds → KP κ K N H h (L2.putK xs k v) (putD ds k d)
  | _, _, .nil => .cons ⟨rfl, rv⟩ .nil
  | (a, x) :: xs, (b, y) :: ds, .cons e r => by
    obtain ⟨e1, e2⟩ := e
    cases e1
    rw [putV_cons, putD]
    by_cases c : a = k
    · rw [if_pos c, if_pos c]; exact .cons ⟨rfl, rv⟩ (KP.map rv r)
    · rw [if_neg c, if_neg c]; exact .cons ⟨rfl, e2⟩ (KP.put rv r)
theorem KP.len : ∀ {xs : List (κ × V)} {ds : List (κ × PyData)}, KP κ K N H h xs ds → xs.length = ds.length := Paired.len
theorem KP.tr {H' : Hp} {h' : Lh} (t : Tr H h H' h') {xs : List (κ × V)} {ds : List (κ × PyData)} (r : KP κ K N H h xs ds) : KP κ K N H' h' xs ds := Paired.mono2 (fun a b z => ⟨z.1, z.2.tr t⟩) r
end
def keyD : PyData → Option Key
  | .int i => some (.inl i)
  | .str s => some (.inr s)
  | _ => none
@[simp] theorem keyD_int {i : Int} : keyD (.int i) = some (.inl i) := rfl
@[simp] theorem keyD_str {i : Str} : keyD (.str i) = some (.inr i) := rfl
section
variable {K : PySem.W.Frag} {XX : XP} {N : Addr → Prop} {H : Hp} {h : Lh}
theorem Rl.key {v : V} {d : PyData} {k : Key} (r : Rl K N H h v d) (e : keyD d = some k) : v = kV k := by
  cases d with
  | int i => cases e; exact r.i
  | str s => cases e; exact r.s
  | _ => cases e
theorem Sim.dK {a : Addr} {kvs : List (Key × PyData)} (S : Sim K N H h) (e : h a = some (.dK kvs)) : ∃ xs, H a = some (.dK xs) ∧ KP Key K N H h xs kvs := by
  obtain ⟨n, u, z, k⟩ := S.at_ a _ e
  cases k with
  | dK k => exact ⟨_, z, k⟩
@[simp] def wDGet (a b : WE) : WE := fun ρ h P => a ρ h fun d h1 => b ρ h1 fun y h2 => ∃ p kvs k v, d = rf p ∧ h2 p = some (.dK kvs) ∧ keyD y = some k ∧ valD kvs k = some v ∧ P v h2
instance {td ty : TE} {a b : WE} [A : RE K XX td a] [B : RE K XX ty b] : RE K XX (tDGet td ty) (wDGet a b) := ⟨fun S E p k =>
  A.run S E p fun v d H1 h1 t1 S1 r1 p1 => B.run S1 (E.tr t1) p1 fun y yd H2 h2 t2 S2 r2 ⟨q, kvs, kk, x, e1, e2, e3, e4, p2⟩ => by
    obtain ⟨xs, z, r⟩ := S2.toSim.dK e2
    obtain ⟨u, hu, ru⟩ := (KP.val r).2 x e4
    refine ⟨q, u, (r1.tr t2).r (a := q) (by rw [e1]; exact asR_rf q), ?_, (k.tr (t1.trans t2)).at S2 ru p2⟩
    rw [r2.key e3, ← hu]
    exact DGet.k z⟩
@[simp] def wDGet2 (a b c : WE) : WE := fun ρ h P => a ρ h fun d h1 => (∃ p kvs, d = rf p ∧ h1 p = some (.dK kvs)) ∧ b ρ h1 fun y h2 => c ρ h2 fun z h3 => ∃ p kvs k, d = rf p ∧ h3 p = some (.dK kvs) ∧ keyD y = some k ∧ P ((valD kvs k).getD z) h3
instance {td ty tx : TE} {a b c : WE} [A : RE K XX td a] [B : RE K XX ty b] [C : RE K XX tx c] : RE K XX (tDGet2 td ty tx) (wDGet2 a b c) := ⟨fun S E p k =>
  A.run S E p fun v d H1 h1 t1 S1 r1 ⟨⟨q0, kvs0, e01, e02⟩, p1⟩ => by
    obtain ⟨xs0, z0, _⟩ := S1.toSim.dK e02
    refine ⟨q0, r1.r (a := q0) (by rw [e01]; exact asR_rf q0), .inl ⟨xs0, .inl z0⟩, B.run S1 (E.tr t1) p1 fun y yd H2 h2 t2 S2 r2 p2 => C.run S2 (E.tr (t1.trans t2)) p2 fun w wd H3 h3 t3 S3 r3 ⟨q, kvs, kk, e1, e2, e3, p3⟩ => ?_⟩
    obtain ⟨xs, z, r⟩ := S3.toSim.dK e2
    have eq : q0 = q := by
      have h1 := r1.r (a := q0) (by rw [e01]; exact asR_rf q0)
      have h2 := r1.r (a := q) (by rw [e1]; exact asR_rf q)
      rw [h1] at h2; cases h2; rfl
    subst eq
    refine ⟨valV xs kk, ?_, ?_⟩
    · rw [(r2.tr t3).key e3]; exact DGet.k z
    · cases hv : valD kvs kk with
      | none =>
        rw [hv] at p3
        rw [(KP.val r).1 hv]
        exact (k.tr ((t1.trans t2).trans t3)).at S3 r3 p3
      | some x =>
        rw [hv] at p3
        obtain ⟨u, hu, ru⟩ := (KP.val r).2 x hv
        rw [hu]
        exact (k.tr ((t1.trans t2).trans t3)).at S3 ru p3⟩
@[simp] def wDIn (neg : Bool) (b a : WE) : WE := fun ρ h P => b ρ h fun y h1 => a ρ h1 fun d h2 => ∃ p kvs k, d = rf p ∧ h2 p = some (.dK kvs) ∧ keyD y = some k ∧ P (.bool (if neg then !(valD kvs k).isSome else (valD kvs k).isSome)) h2
theorem KP.some {kvs : List (Key × PyData)} {xs : List (Key × V)} {k : Key} (r : KP Key K N H h xs kvs) : (valV xs k).isSome = (valD kvs k).isSome := by
  cases hv : valD kvs k with
  | none => rw [(KP.val r).1 hv]; rfl
  | some x => obtain ⟨u, hu, _⟩ := (KP.val r).2 x hv; rw [hu]; rfl
instance {td ty : TE} {a b : WE} [A : RE K XX td a] [B : RE K XX ty b] : RE K XX (tDIn ty td) (wDIn false b a) := ⟨fun S E p k =>
  B.run S E p fun y yd H1 h1 t1 S1 r1 p1 => A.run S1 (E.tr t1) p1 fun v d H2 h2 t2 S2 r2 ⟨q, kvs, kk, e1, e2, e3, p2⟩ => by
    obtain ⟨xs, z, r⟩ := S2.toSim.dK e2
    refine ⟨q, valV xs kk, r2.r (a := q) (by rw [e1]; exact asR_rf q), ?_, ?_⟩
    · rw [(r1.tr t2).key e3]; exact DGet.k z
    · rw [KP.some r]; exact (k.tr (t1.trans t2)).at S2 (.bl _) p2⟩
instance {td ty : TE} {a b : WE} [A : RE K XX td a] [B : RE K XX ty b] : RE K XX (tDNotIn ty td) (wDIn true b a) := ⟨fun S E p k =>
  B.run S E p fun y yd H1 h1 t1 S1 r1 p1 => A.run S1 (E.tr t1) p1 fun v d H2 h2 t2 S2 r2 ⟨q, kvs, kk, e1, e2, e3, p2⟩ => by
    obtain ⟨xs, z, r⟩ := S2.toSim.dK e2
    refine ⟨q, valV xs kk, r2.r (a := q) (by rw [e1]; exact asR_rf q), ?_, ?_⟩
    · rw [(r1.tr t2).key e3]; exact DGet.k z
    · rw [KP.some r]; exact (k.tr (t1.trans t2)).at S2 (.bl _) p2⟩
/-- d[k] = v -/
@[simp] def wDPut (a b c : WE) : WS := fun E ρ h => c ρ h fun v h1 => a ρ h1 fun d h2 => b ρ h2 fun y h3 => ∃ p kvs k, d = rf p ∧ h3 p = some (.dK kvs) ∧ keyD y = some k ∧ kvs.length < 100000 ∧ E.nx ρ (up h3 p (.dK (putD kvs k v)))
instance {td ty tv : TE} {a b c : WE} [A : RE K XX td a] [B : RE K XX ty b] [C : RE K XX tv c] : RS K XX (sDPut td ty tv) (wDPut a b c) := ⟨fun {N σ H ρ h E D} S e p k =>
  C.run S e p fun v vd H1 h1 t1 S1 r1 p1 => A.run S1 (e.tr t1) p1 fun x d H2 h2 t2 S2 r2 p2 => B.run S2 (e.tr (t1.trans t2)) p2 fun y yd H3 h3 t3 S3 r3 ⟨q, kvs, kk, e1, e2, e3, l, p3⟩ => by
    obtain ⟨xs, z, r⟩ := S3.toSim.dK e2
    have hp : H3 q = none ∨ h3 q ≠ none := .inr (by rw [e2]; intro z; cases z)
    have t := (t1.trans t2).trans t3
    have t4 : Tr H3 h3 (L2.upd H3 q (.dK (L2.putK xs kk v))) (up h3 q (.dK (putD kvs kk vd))) := Tr.put hp
    refine ⟨q, _, (r2.tr t3).r (a := q) (by rw [e1]; exact asR_rf q), ?_, k.nx _ _ _ _ (t.trans t4) (S3.put hp (.dK (KP.put (r1.tr (t2.trans t3)) r))) (e.tr (t.trans t4)) p3⟩
    rw [r3.key e3]
    exact DPut.k z (sz_lt (by rw [KP.len r]; exact l))⟩
/-! displays -/
abbrev WP := Ev' → Lh → (List (PyData × PyData) → Lh → Prop) → Prop
class RP (K : PySem.W.Frag) (XX : XP) (trs : List (TE × TE)) (w : outParam WP) : Prop where
  run : ∀ {N : Addr → Prop} {σ : L2.St} {H : Hp} {ρ : Ev'} {h : Lh} {P : List (PyData × PyData) → Lh → Prop} {Q : List (V × V) → Hp → Prop}, Sx K XX N H h → En K N H h σ ρ → w ρ h P →
    (∀ vs ds H' h', Tr H h H' h' → Sx K XX N H' h' → Paired (fun (p : V × V) (q : PyData × PyData) => Rl K N H' h' p.1 q.1 ∧ Rl K N H' h' p.2 q.2) vs ds → P ds h' → Q vs H') → tPairs trs σ H Q
@[simp] def wP0 : WP := fun _ h P => P [] h
@[simp] def wP1 (a b : WE) (r : WP) : WP := fun ρ h P => a ρ h fun d h1 => b ρ h1 fun e h2 => r ρ h2 fun ps h3 => P ((d, e) :: ps) h3
instance : RP K XX [] wP0 := ⟨fun S e p k => k _ _ _ _ (Tr.refl _ _) S .nil p⟩
instance {ta tb : TE} {trs : List (TE × TE)} {a b : WE} {r : WP} [A : RE K XX ta a] [B : RE K XX tb b] [R : RP K XX trs r] : RP K XX ((ta, tb) :: trs) (wP1 a b r) := ⟨fun S e p k =>
  A.run S e p fun v d H1 h1 t1 S1 r1 p1 => B.run S1 (e.tr t1) p1 fun y yd H2 h2 t2 S2 r2 p2 => R.run S2 (e.tr (t1.trans t2)) p2 fun vs ds H3 h3 t3 S3 r3 p3 => k _ _ _ _ ((t1.trans t2).trans t3) S3 (.cons ⟨r1.tr (t2.trans t3), r2.tr t3⟩ r3) p3⟩
def kvsD : List (PyData × PyData) → Option (List (Key × PyData))
  | [] => some []
  | (k, v) :: r => match keyD k, kvsD r with
    | some k, some r => some ((k, v) :: r)
    | _, _ => none
@[simp] theorem kvsD_nil : kvsD [] = some [] := rfl
@[simp] theorem kvsD_str {s : Str} {v : PyData} {r : List (PyData × PyData)} : kvsD ((.str s, v) :: r) = (kvsD r).map ((.inr s, v) :: ·) := by
  rw [kvsD]
  cases kvsD r <;> rfl
@[simp] theorem kvsD_int {s : Int} {v : PyData} {r : List (PyData × PyData)} : kvsD ((.int s, v) :: r) = (kvsD r).map ((.inl s, v) :: ·) := by
  rw [kvsD]
  cases kvsD r <;> rfl
theorem kvsD_ok {N : Addr → Prop} {H : Hp} {h : Lh} : ∀ {vs : List (V × V)} {ds : List (PyData × PyData)} {kvs : List (Key × PyData)}, Paired (fun (p : V × V) (q : PyData × PyData) => Rl K N H h p.1 q.1 ∧ Rl K N H h p.2 q.2) vs ds → kvsD ds = some kvs → ∃ xs : List (Key × V), vs = xs.map (fun kv => (kV kv.1, kv.2)) ∧ KP Key K N H h xs kvs
  | _, _, _, .nil, e => by cases e; exact ⟨[], rfl, .nil⟩
  | (a, x) :: vs, (b, y) :: ds, kvs, .cons z r, e => by
    unfold kvsD at e
    cases hk : keyD b with
    | none => rw [hk] at e; cases e
    | some k =>
      cases hr : kvsD ds with
      | none => rw [hk, hr] at e; cases e
      | some rs =>
        rw [hk, hr] at e
        cases e
        obtain ⟨xs, rfl, rr⟩ := kvsD_ok r hr
        refine ⟨(k, x) :: xs, ?_, .cons ⟨rfl, z.2⟩ rr⟩
        have := z.1.key hk
        simp at this
        rw [this]; rfl
@[simp] def mergeD (kvs : List (Key × PyData)) : List (Key × PyData) → List (Key × PyData)
  | [] => kvs
  | (k, v) :: r => mergeD (putD kvs k v) r
theorem KP.merge {N : Addr → Prop} {H : Hp} {h : Lh} : ∀ {ys : List (Key × V)} {es : List (Key × PyData)} {xs : List (Key × V)} {ds : List (Key × PyData)}, KP Key K N H h ys es → KP Key K N H h xs ds → KP Key K N H h (mergeK xs ys) (mergeD ds es)
  | _, _, _, _, .nil, r => r
  | (a, x) :: ys, (b, y) :: es, xs, ds, .cons z q, r => by
    obtain ⟨z1, z2⟩ := z
    cases z1
    show KP Key K N H h (mergeK (L2.putK xs a x) ys) (mergeD (putD ds a y) es)
    exact KP.merge q (KP.put z2 r)
/-- a dict is always mutable -/
@[simp] def wDisp (r : WP) : WE := fun ρ h P => r ρ h fun ps h1 => ps.length ≤ 15 ∧ ∃ kvs, kvsD ps = some kvs ∧ ∀ p, h p = none → h1 p = none → P (rf p) (up h1 p (.dK (mergeD [] kvs)))
instance {trs : List (TE × TE)} {r : WP} [R : RP K XX trs r] : RE K XX (tDisp trs) (wDisp r) := ⟨fun {N σ H ρ h P Q} S e p k D hD => by
  have hN0 : ∀ a, (N a ∨ a = D) → N a ∨ H a = none := fun a z => z.imp id fun e => by rw [e]; exact hD
  have tN : Tr H h (L2.upd H D (.dK [])) h := Tr.new hD
  have S1 : Sx K XX (fun a => N a ∨ a = D) (L2.upd H D (.dK [])) h := S.more hD
  have E1 : En K (fun a => N a ∨ a = D) (L2.upd H D (.dK [])) h σ ρ := (e.mono (fun v d => Rl.hid hN0)).tr tN
  refine R.run S1 E1 p fun vs ds H2 h2 t2 S2 r2 ⟨l, kvs, ek, p2⟩ => ?_
  have hDn : ∀ {H' : Hp} {h' : Lh}, Sim K (fun a => N a ∨ a = D) H' h' → h' D = none := fun {H' h'} S' => by
    cases z : h' D with
    | none => rfl
    | some o => exact absurd (.inr rfl) (S'.at_ D o z).1
  have hD2 : H2 D = some (.dK []) := (t2.k D _ upd_same (hDn S1.toSim)).1
  obtain ⟨xs, rfl, rr⟩ := kvsD_ok r2 ek
  refine ⟨hD2, xs, rfl, by have := Paired.len r2; rw [List.length_map] at this; omega, ?_⟩
  have f : ∀ a o, H2 a = some o → h2 a = none → ¬ (N a ∨ a = D) → L2.upd H2 D (.dK (mergeK [] xs)) a = some o ∧ up h2 D (.dK (mergeD [] kvs)) a = none ∧ ¬ N a := fun a o e1 e2 e3 => by
    have ne : a ≠ D := fun z => e3 (.inr z)
    exact ⟨by rw [upd_ne ne]; exact e1, by rw [up_ne ne]; exact e2, fun z => e3 (.inl z)⟩
  have t3 : Tr H h (L2.upd H2 D (.dK (mergeK [] xs))) (up h2 D (.dK (mergeD [] kvs))) := ⟨fun a o e1 e2 => by
    have ne : a ≠ D := fun z => by rw [z, hD] at e1; cases e1
    have := (tN.trans t2).k a o e1 e2
    exact ⟨by rw [upd_ne ne]; exact this.1, by rw [up_ne ne]; exact this.2⟩, fun a q => (tN.trans t2).n a (upd_none q)⟩
  refine k _ _ _ _ t3 (S.to t3 ⟨fun a o q => ?_, fun a z => ?_⟩) (.rf D) (p2 D (S.hn hD) (hDn S2.toSim))
  · by_cases c : a = D
    · subst c
      rw [up_same] at q
      cases q
      exact ⟨S.nn hD, _, upd_same, .dK (Paired.mono2 (fun a b z => ⟨z.1, Rl.trN f z.2⟩) (KP.merge rr .nil))⟩
    · rw [up_ne c] at q
      obtain ⟨n', u', e', k'⟩ := S2.at_ a o q
      exact ⟨fun z => n' (.inl z), u', by rw [upd_ne c]; exact e', k'.mono (fun v d => Rl.trN f) (fun v d => Rls.trN f)⟩
  · by_cases c : a = D
    · subst c; rw [upd_same]; intro z; cases z
    · rw [upd_ne c]; exact S2.hid a (.inl z)⟩
@[simp] theorem putD_cons {κ : Type} [DecidableEq κ] {p : κ × PyData} {r : List (κ × PyData)} {k : κ} {v : PyData} (h : ¬ p.1 = k) : putD (p :: r) k v = p :: putD r k v := by rw [putD, if_neg h]
@[simp] theorem putD_hit {κ : Type} [DecidableEq κ] {u v : PyData} {r : List (κ × PyData)} {k : κ} : putD ((k, u) :: r) k v = (k, v) :: r.map (fun kv => if kv.1 = k then (kv.1, v) else kv) := by rw [putD, if_pos rfl]
end
end Wl
set_option Elab.async false
set_option linter.all false
set_option maxRecDepth 100000
set_option maxHeartbeats 4000000
/-! ### from a law's plain promise to the walk's -/
namespace Wl
open PySem PySem.Spec PyProof.Rows L2 Evl Pd
def D_lawT (ds : List PyData) (h : Lh) (P : Wv) : Prop := ∃ ns : List Int, ds = [.dict [(.none, .tuple (ns.map .int))]] ∧ ns.length ≤ 63 ∧ h = (fun _ => none) ∧ ∀ h', P (.bool true) h'
def sp_lawT (K : PySem.W.Frag) : Sp := fun vs H Q _ => ∃ (a : Addr) (ns : List Int), vs = [.ref a] ∧ SqL K H a (ns.map V.int) ∧ ns.length ≤ 63 ∧ ∀ H', Q (.bl true) H'
theorem lawT {P : Program} {w : World} {K : PySem.W.Frag} {mg : Str → Option Value} {base : Heap} {CX : CXT} {k : Nat} {f : Addr} {fd : FuncData} {ps : List Str} (L : FnOk P w K mg base CX k f fd ps (SpW K D_lawT)) : FnOk P w K mg base CX k f fd ps (sp_lawT K) := L.imp fun vs H Q E ⟨a, ns, e, hs, hl, kk⟩ => by
  subst e
  refine ⟨fun _ => False, fun _ => none, _, fun d _ => d = .bool true, fun _ _ _ => False, Sx.noX ⟨fun a o z => (nomatch z), fun _ z => z.elim⟩, .cons (.scr ns ?_) .nil, ⟨ns, rfl, hl, rfl, fun _ => rfl⟩, ?_⟩
  · rcases hs with r | r
    · exact .inl ⟨r, rfl, fun z => z⟩
    · exact .inr r
  · intro v d H' h' t S r e
    subst e
    cases r
    exact kk _
end Wl
set_option Elab.async false
set_option linter.all false
set_option maxRecDepth 100000
set_option maxHeartbeats 4000000
namespace K96
open PySem PySem.Spec PyProof.Rows L2 Evl Pd
def topS (i : Nat) : Stmt := PySem.Challenge.pw_gleanworld_k96_what_is_a_teller.main.body.getD i (.Pass ⟨0, 0, 0, 0⟩)
abbrev st_is_integer : Stmt := topS 4
theorem sc_is_integer : FnScope ["value"] ["value"] (defScope st_is_integer) := ⟨rfl, rfl, rfl, by decide +kernel, rfl, by decide +kernel, by decide +kernel⟩
abbrev st_is_count : Stmt := topS 5
theorem sc_is_count : FnScope ["value"] ["value"] (defScope st_is_count) := ⟨rfl, rfl, rfl, by decide +kernel, rfl, by decide +kernel, by decide +kernel⟩
abbrev st_is_index : Stmt := topS 17
theorem sc_is_index : FnScope ["value", "count"] ["value", "count"] (defScope st_is_index) := ⟨rfl, rfl, rfl, by decide +kernel, rfl, by decide +kernel, by decide +kernel⟩
abbrev st_is_number : Stmt := topS 18
theorem sc_is_number : FnScope ["value"] ["value"] (defScope st_is_number) := ⟨rfl, rfl, rfl, by decide +kernel, rfl, by decide +kernel, by decide +kernel⟩
abbrev st_is_part : Stmt := topS 10
theorem sc_is_part : FnScope ["kind", "value", "roots", "registers"] ["kind", "value", "roots", "registers"] (defScope st_is_part) := ⟨rfl, rfl, rfl, by decide +kernel, rfl, by decide +kernel, by decide +kernel⟩
abbrev st_is_operation : Stmt := topS 11
theorem sc_is_operation : FnScope ["value", "roots", "registers", "form", "kind", "part"] ["value", "roots", "registers"] (defScope st_is_operation) := ⟨rfl, rfl, rfl, by decide +kernel, rfl, by decide +kernel, by decide +kernel⟩
abbrev st_is_test : Stmt := topS 19
theorem sc_is_test : FnScope ["value", "count", "depth"] ["value", "count", "depth"] (defScope st_is_test) := ⟨rfl, rfl, rfl, by decide +kernel, rfl, by decide +kernel, by decide +kernel⟩
abbrev st_filled : Stmt := topS 20
theorem sc_filled : FnScope ["operation", "counters", "last"] ["operation", "counters"] (defScope st_filled) := ⟨rfl, rfl, rfl, by decide +kernel, rfl, by decide +kernel, by decide +kernel⟩
abbrev st_Form_init : Stmt := inClass (topS 21) 0
theorem sc_Form_init : FnScope ["self", "count", "roots", "registers"] ["self", "count", "roots", "registers"] (defScope st_Form_init) := ⟨rfl, rfl, rfl, by decide +kernel, rfl, by decide +kernel, by decide +kernel⟩
abbrev st_Form_is_block : Stmt := inClass (topS 21) 1
theorem sc_Form_is_block : FnScope ["self", "value", "depth", "one"] ["self", "value", "depth"] (defScope st_Form_is_block) := ⟨rfl, rfl, rfl, by decide +kernel, rfl, by decide +kernel, by decide +kernel⟩
abbrev st_Form_is_do : Stmt := inClass (topS 21) 2
theorem sc_Form_is_do : FnScope ["self", "operation", "zeros"] ["self", "operation"] (defScope st_Form_is_do) := ⟨rfl, rfl, rfl, by decide +kernel, rfl, by decide +kernel, by decide +kernel⟩
abbrev st_Form_is_statement : Stmt := inClass (topS 21) 3
theorem sc_Form_is_statement : FnScope ["self", "value", "depth", "word", "rest"] ["self", "value", "depth"] (defScope st_Form_is_statement) := ⟨rfl, rfl, rfl, by decide +kernel, rfl, by decide +kernel, by decide +kernel⟩
abbrev st_is_teller : Stmt := topS 22
theorem sc_is_teller : FnScope ["value", "roots", "registers"] ["value", "roots", "registers"] (defScope st_is_teller) := ⟨rfl, rfl, rfl, by decide +kernel, rfl, by decide +kernel, by decide +kernel⟩
abbrev st_check_teller : Stmt := topS 23
theorem sc_check_teller : FnScope ["teller", "roots", "registers"] ["teller", "roots", "registers"] (defScope st_check_teller) := ⟨rfl, rfl, rfl, by decide +kernel, rfl, by decide +kernel, by decide +kernel⟩
abbrev st__law_tape : Stmt := topS 25
theorem sc__law_tape : FnScope ["script", "seed", "cell"] ["script"] (defScope st__law_tape) := ⟨rfl, rfl, rfl, by decide +kernel, rfl, by decide +kernel, by decide +kernel⟩
abbrev st__law_draw : Stmt := topS 26
theorem sc__law_draw : FnScope ["tape", "many", "cells", "number"] ["tape", "many"] (defScope st__law_draw) := ⟨rfl, rfl, rfl, by decide +kernel, rfl, by decide +kernel, by decide +kernel⟩
abbrev st__law_pick : Stmt := topS 27
theorem sc__law_pick : FnScope ["tape", "row"] ["tape", "row"] (defScope st__law_pick) := ⟨rfl, rfl, rfl, by decide +kernel, rfl, by decide +kernel, by decide +kernel⟩
abbrev st__law_operation : Stmt := topS 28
theorem sc__law_operation : FnScope ["tape", "roots", "registers", "words", "word", "r", "q", "k", "i"] ["tape", "roots", "registers"] (defScope st__law_operation) := ⟨rfl, rfl, rfl, by decide +kernel, rfl, by decide +kernel, by decide +kernel⟩
abbrev st__law_shape : Stmt := topS 29
theorem sc__law_shape : FnScope ["tape"] ["tape"] (defScope st__law_shape) := ⟨rfl, rfl, rfl, by decide +kernel, rfl, by decide +kernel, by decide +kernel⟩
abbrev st__law_test : Stmt := topS 30
theorem sc__law_test : FnScope ["tape", "count", "depth", "kind"] ["tape", "count", "depth"] (defScope st__law_test) := ⟨rfl, rfl, rfl, by decide +kernel, rfl, by decide +kernel, by decide +kernel⟩
abbrev st__law_do_row : Stmt := topS 31
theorem sc__law_do_row : FnScope ["tape", "shape", "count", "operation"] ["tape", "shape", "count"] (defScope st__law_do_row) := ⟨rfl, rfl, rfl, by decide +kernel, rfl, by decide +kernel, by decide +kernel⟩
abbrev st__law_block : Stmt := topS 32
theorem sc__law_block : FnScope ["tape", "shape", "count", "depth", "many", "found", "turn", "kind", "test", "first"] ["tape", "shape", "count", "depth", "many"] (defScope st__law_block) := ⟨rfl, rfl, rfl, by decide +kernel, rfl, by decide +kernel, by decide +kernel⟩
abbrev st__law_teller : Stmt := topS 33
theorem sc__law_teller : FnScope ["tape", "shape", "count"] ["tape", "shape"] (defScope st__law_teller) := ⟨rfl, rfl, rfl, by decide +kernel, rfl, by decide +kernel, by decide +kernel⟩
abbrev st__law_is_integer : Stmt := topS 34
theorem sc__law_is_integer : FnScope ["value", "least", "most"] ["value", "least", "most"] (defScope st__law_is_integer) := ⟨rfl, rfl, rfl, by decide +kernel, rfl, by decide +kernel, by decide +kernel⟩
abbrev st__law_is_operation : Stmt := topS 35
theorem sc__law_is_operation : FnScope ["value", "count", "roots", "registers", "forms", "more", "least", "most", "form", "k", "part"] ["value", "count", "roots", "registers"] (defScope st__law_is_operation) := ⟨rfl, rfl, rfl, by decide +kernel, rfl, by decide +kernel, by decide +kernel⟩
abbrev st__law_is_test : Stmt := topS 36
theorem sc__law_is_test : FnScope ["value", "count", "depth", "turn"] ["value", "count", "depth"] (defScope st__law_is_test) := ⟨rfl, rfl, rfl, by decide +kernel, rfl, by decide +kernel, by decide +kernel⟩
abbrev st__law_is_block : Stmt := topS 37
theorem sc__law_is_block : FnScope ["value", "count", "shape", "depth", "one", "word", "part"] ["value", "count", "shape", "depth"] (defScope st__law_is_block) := ⟨rfl, rfl, rfl, by decide +kernel, rfl, by decide +kernel, by decide +kernel⟩
abbrev st__law_is_teller : Stmt := topS 38
theorem sc__law_is_teller : FnScope ["value", "shape"] ["value", "shape"] (defScope st__law_is_teller) := ⟨rfl, rfl, rfl, by decide +kernel, rfl, by decide +kernel, by decide +kernel⟩
abbrev st__law_other : Stmt := topS 39
theorem sc__law_other : FnScope ["tape", "value", "deep", "k", "odd", "kind"] ["tape", "value", "deep"] (defScope st__law_other) := ⟨rfl, rfl, rfl, by decide +kernel, rfl, by decide +kernel, by decide +kernel⟩
abbrev st__law_deep : Stmt := topS 40
theorem sc__law_deep : FnScope ["tape", "count", "many", "nots", "test", "turn", "block"] ["tape", "count"] (defScope st__law_deep) := ⟨rfl, rfl, rfl, by decide +kernel, rfl, by decide +kernel, by decide +kernel⟩
abbrev st__law_checked : Stmt := topS 41
theorem sc__law_checked : FnScope ["value", "shape", "told"] ["value", "shape"] (defScope st__law_checked) := ⟨rfl, rfl, rfl, by decide +kernel, rfl, by decide +kernel, by decide +kernel⟩
abbrev st_law : Stmt := topS 42
theorem sc_law : FnScope ["script", "tape", "shape", "less", "teller", "values", "turn", "value", "one", "due", "told"] ["script"] (defScope st_law) := ⟨rfl, rfl, rfl, by decide +kernel, rfl, by decide +kernel, by decide +kernel⟩
/-- what the top has written of plain names -/
structure Txt (K : PySem.W.Frag) (mg : Str → Option Value) : Prop where
  n_isinstance : mg "isinstance" = none
  n_len : mg "len" = none
  n_all : mg "all" = none
  n_zip : mg "zip" = none
  n_tuple : mg "tuple" = none
  n_str : mg "str" = none
  n_int : mg "int" = none
  n_bool : mg "bool" = none
  n_abs : mg "abs" = none
  n_list : mg "list" = none
  n_range : mg "range" = none
  n_max : mg "max" = none
  c_LIMIT : ∃ u, mg "LIMIT" = some u ∧ RelV (.int 1000000000000000000) u
  c_MOST_INDEX : ∃ u, mg "MOST_INDEX" = some u ∧ RelV (.int 1000000000) u
  c_COUNTER : ∃ u, mg "COUNTER" = some u ∧ RelV (.str "counter") u
  c_MOST_COUNTERS : ∃ u, mg "MOST_COUNTERS" = some u ∧ RelV (.int 100) u
  c_MOST_DEEP : ∃ u, mg "MOST_DEEP" = some u ∧ RelV (.int 20) u
end K96
set_option Elab.async false
set_option linter.all false
set_option maxRecDepth 100000
set_option maxHeartbeats 4000000
namespace K96
open PySem PySem.Spec PyProof.Rows L2 Evl Pd Wl
section
variable {P : Program} {w : World} {K : PySem.W.Frag} {mg : Str → Option Value} {base : Heap}
theorem cal__law_tape (S : Src K mg "_law_tape" st__law_tape ["script"]) (T : Txt K mg) : Cal P w K mg base CX0 1 "_law_tape" ["script"] (SpW K D_tape) := by
  have sc := sc__law_tape
  refine S.cal (k := 0) sc (SpW.len fun ds h P z => by obtain ⟨_, rfl, _⟩ := z; rfl) (fun f cdv A outer s H vs Q E hr h => ⟨_, (pss_cons (ps_set (i := 1) sc.nd rfl (by first | exact Or.inl rfl | exact Or.inr rfl) pe_int)
  (pss_cons (ps_for PassesOwn.never rfl (k_pi_list (K := K) rfl (pv 0)) (pg_name (i := 2) sc.nd rfl (by first | exact Or.inl rfl | exact Or.inr rfl)) (pss_one (ps_set (i := 1) sc.nd rfl (by first | exact Or.inl rfl | exact Or.inr rfl) (pe_op op_mod (pe_callTy call_int1 (by rfl) T.n_int (by decide +kernel) (pa_cons (pe_op op_add (pe_op op_mul (pv 1) pe_int) (pv 2)) pa_nil)) pe_int))))
  (pss_one (ps_ret (pe_ref (pe_lst (pa_cons (pe_ref (pe_lc (own := [("cell", 2)]) rfl sc.nd (k_pi_list (K := K) rfl (pv 0)) (blkOk_by (by first | decide +kernel | kernel_rfl)) (fun _ _ _ _ _ => (pg_name (i := 2) sc.nd rfl (by first | exact Or.inl rfl | exact Or.inr rfl))) (fun _ _ _ _ _ => pts_nil) (fun _ _ _ _ _ => (pe_callB call_abs (by rfl) T.n_abs (by decide +kernel) (pa_cons (pe_callTy call_int1 (by rfl) T.n_int (by decide +kernel) (pa_cons (pv 2) pa_nil)) pa_nil))))) (pa_cons (pe_op op_add (pv 1) pe_int) pa_nil)))))))), h.enter fun ds lh P hD => ?_⟩)
  obtain ⟨ns, rfl, hl, hk⟩ := hD
  simp
  refine forL_run (fun ds ρ h => h = lh ∧ ∃ (ms : List Int) (s : Int) (x : Option PyData), ds = ms.map .int ∧ 0 ≤ s ∧ s < 1000003 ∧ ρ = [some (.dict [(.none, .tuple (ns.map .int))]), some (.int s), x]) ?_ ?_ ⟨rfl, ns, 7, none, rfl, by omega, by omega, rfl⟩
  · rintro d ds ρ h ⟨rfl, ms, s, x, e, s1, s2, rfl⟩
    refine ⟨trivial, fun F hF => ?_⟩
    cases ms with
    | nil => cases e
    | cons m ms =>
      cases e
      simp [CMul]
      exact hF _ _ ⟨rfl, ms, _, _, rfl, Int.emod_nonneg _ (by decide), Int.emod_lt_of_pos _ (by decide), rfl⟩
  · rintro ρ h ⟨rfl, ms, s, x, e, s1, s2, rfl⟩
    refine ⟨trivial, ?_⟩
    simp
    refine lcL_map (emb := PyData.int) (fun n => .int (if n < 0 then -n else n)) (by simp) (by omega) (fun n hn F hF => ?_) ?_
    · simp; exact hF
    · intro c hc _ t ht ht2
      refine hk t c _ ht hc ⟨⟨fun z => ?_, ⟨s + 1, ?_, by omega, by omega⟩, ⟨ns.map fun n => if n < 0 then -n else n, ?_, by simpa using hl, ?_⟩⟩, fun a o n1 n2 e => ?_⟩
      · subst z; rw [up_same] at ht2; cases ht2
      · exact up_same
      · rw [up_ne (fun z => by subst z; rw [up_same] at ht2; cases ht2), up_same, List.map_map]; rfl
      · intro n hn
        obtain ⟨m, _, rfl⟩ := List.mem_map.mp hn
        split <;> omega
      · rw [up_ne n1, up_ne n2]; exact e
theorem cal__law_draw (S : Src K mg "_law_draw" st__law_draw ["tape", "many"]) (T : Txt K mg) : Cal P w K mg base CX0 1 "_law_draw" ["tape", "many"] (SpW K D_draw) := by
  have sc := sc__law_draw
  refine S.cal (k := 0) sc (SpW.len fun ds h P z => by obtain ⟨_, _, _, rfl, _⟩ := z; rfl) (fun f cdv A outer s H vs Q E hr h => ⟨_, (pss_cons (ps_set (i := 2) sc.nd rfl (by first | exact Or.inl rfl | exact Or.inr rfl) (pe_ix (k_ix_list (K := K) rfl) (pv 0) pe_int (fun _ _ => rfl)))
  (pss_cons (ps_while PassesOwn.never (PW.pt (pw_and (pt_cmpR op_gt (pe_callB (k_len_seq (K := K) rfl) (by rfl) T.n_len PySem.boot_len (pa_cons (pv 2) pa_nil)) pe_int (nomark _)) (pw_and1 (pt_cmpR op_eq (pe_ix (k_ix_list (K := K) rfl) (pv 2) pe_int (fun _ _ => rfl)) pe_int (nomark _))))) (pss_one (ps_expr (k_pop (K := K) rfl (pv 2) (pa_cons pe_int pa_nil)))))
  (pss_cons (ps_if (pt_cmpR op_gt (pe_callB (k_len_seq (K := K) rfl) (by rfl) T.n_len PySem.boot_len (pa_cons (pv 2) pa_nil)) pe_int (nomark _)) (pss_cons (ps_set (i := 3) sc.nd rfl (by first | exact Or.inl rfl | exact Or.inr rfl) (pe_ix (k_ix_list (K := K) rfl) (pv 2) pe_int (fun _ _ => rfl)))
  (pss_cons (ps_asg (pe_op op_fdiv (pv 3) (pv 1)) (pg_sub (pv 2) pe_int set_list))
  (pss_one (ps_ret (pe_op op_mod (pe_callTy call_int1 (by rfl) T.n_int (by decide +kernel) (pa_cons (pv 3) pa_nil)) (pv 1)))))) pss_nil)
  (pss_cons (ps_asg (pe_op op_mod (pe_callTy call_int1 (by rfl) T.n_int (by decide +kernel) (pa_cons (pe_op op_add (pe_op op_mul (pe_ix (k_ix_list (K := K) rfl) (pv 0) pe_int (fun _ _ => rfl)) pe_int) pe_int) pa_nil)) pe_int) (pg_sub (pv 0) pe_int set_list))
  (pss_one (ps_ret (pe_op op_mod (pe_callTy call_int1 (by rfl) T.n_int (by decide +kernel) (pa_cons (pe_op op_fdiv (pe_ix (k_ix_list (K := K) rfl) (pv 0) pe_int (fun _ _ => rfl)) pe_int) pa_nil)) (pv 1)))))))), h.enter fun ds lh P hD => ?_⟩)
  obtain ⟨t, c, m, rfl, ⟨ne, ⟨s, ht, s1, s2⟩, ns, hc, hl, hp⟩, h1, h2, hk⟩ := hD
  simp [ht]
  refine wWhile_run (fun n ρ h => ∃ ms : List Int, n = ms.length ∧ ρ = [some (rf t), some (.int (m : Nat)), some (rf c), none] ∧ h t = some (.lst [rf c, .int s]) ∧ h c = some (.lst (ms.map .int)) ∧ ms.length ≤ 63 ∧ (∀ n ∈ ms, 0 ≤ n) ∧ ∀ a o, a ≠ t → a ≠ c → lh a = some o → h a = some o) ns.length ⟨ns, rfl, rfl, ht, hc, hl, hp, fun _ _ _ _ e => e⟩ ?_
  rintro n ρ h ⟨ms, rfl, rfl, ht, hc, hl, hp, fr⟩ F hF
  cases ms with
  | nil =>
    simp at hc
    simp [hc, ht, CMul, ne, Ne.symm ne, up_ne]
    have m1 := Int.emod_nonneg (s * 48271 + 12345) (show (2147483647 : Int) ≠ 0 by decide)
    have m2 := Int.emod_lt_of_pos (s * 48271 + 12345) (show (0 : Int) < 2147483647 by decide)
    refine ⟨⟨by omega, by omega⟩, by omega, ?_⟩
    have z1 := Int.emod_nonneg ((s * 48271 + 12345) % 2147483647 / 64) (show (m : Int) ≠ 0 by omega)
    have z2 := Int.emod_lt_of_pos ((s * 48271 + 12345) % 2147483647 / 64) (show (0 : Int) < m by omega)
    have em : (s * 48271 + 12345) % 2147483647 / 64 % (m : Int) = (((s * 48271 + 12345) % 2147483647 / 64 % (m : Int)).toNat : Int) := by omega
    rw [em]
    exact hk _ (by omega) _ ⟨⟨ne, ⟨_, up_same, m1, m2⟩, [], by rw [up_ne ne]; exact hc, Nat.zero_le _, fun _ z => by cases z⟩, fun a o n1 n2 e => by rw [up_ne n1]; exact fr a o n1 n2 e⟩
  | cons a l =>
    simp at hc
    simp [hc, ht]
    have pa := hp a (List.mem_cons_self ..)
    have pl := fun n hn => hp n (List.mem_cons_of_mem a hn)
    simp at hl
    refine wCond.p (fun a0 => ?_) fun a0 => ?_
    · exact hF l.length _ _ (by simp) ⟨l, rfl, rfl, by rw [up_ne (Ne.symm ne)]; exact ht, up_same, by omega, pl, fun a o n1 n2 e => by rw [up_ne n2]; exact fr a o n1 n2 e⟩
    · refine ⟨⟨by omega, by omega⟩, by omega, ?_⟩
      have m1 := Int.emod_nonneg a (show (m : Int) ≠ 0 by omega)
      have m2 := Int.emod_lt_of_pos a (show (0 : Int) < m by omega)
      have em : a % (m : Int) = ((a % (m : Int)).toNat : Int) := by omega
      rw [em]
      refine hk _ (by omega) _ ⟨⟨ne, ⟨s, by rw [up_ne (Ne.symm ne)]; exact ht, s1, s2⟩, a / (m : Int) :: l, by rw [up_same, List.map_cons], by simp; omega, fun n hn => ?_⟩, fun a o n1 n2 e => by rw [up_ne n2]; exact fr a o n1 n2 e⟩
      rcases List.mem_cons.mp hn with rfl | hn
      · exact Int.ediv_nonneg pa (by omega)
      · exact pl n hn
theorem cal__law_pick (S : Src K mg "_law_pick" st__law_pick ["tape", "row"]) (T : Txt K mg) (C__law_draw : Cal P w K mg base CX0 1 "_law_draw" ["tape", "many"] (SpW K D_draw)) : Cal P w K mg base CX0 2 "_law_pick" ["tape", "row"] (SpW K D_pick) := by
  have sc := sc__law_pick
  refine S.cal (k := 1) sc (SpW.len fun ds h P z => by obtain ⟨_, _, _, rfl, _⟩ := z; rfl) (fun f cdv A outer s H vs Q E hr h => ⟨_, (pss_one (ps_ret (pe_ix (k_ix_list (K := K) rfl) (pv 1) (pe_cal C__law_draw (hr.mono (by first | decide | omega)) rfl pass0 (pa_cons (pv 0) (pa_cons (pe_callB (k_len_seq (K := K) rfl) (by rfl) T.n_len PySem.boot_len (pa_cons (pv 1) pa_nil)) pa_nil))) (fun _ _ => rfl)))), h.enter fun ds lh P hD => ?_⟩)
  obtain ⟨t, c, es, rfl, T0, hne, hl, hk⟩ := hD
  simp
  refine D_draw_run T0 (by cases es with | nil => exact absurd rfl hne | cons a l => simp) hl fun r hr h' g => ?_
  simp
  exact ⟨es[r], atI_nat (j := r) (by simp [hr]), hk _ (List.getElem_mem hr) h' g⟩
end
end K96
set_option Elab.async false
set_option linter.all false
set_option maxRecDepth 100000
set_option maxHeartbeats 4000000
namespace K96
open PySem PySem.Spec PyProof.Rows L2 Evl Pd Wl
/-- a whole number, no bool -/
def isInt : PyData → Bool
  | .int _ => true
  | _ => false
def isCount : PyData → Bool
  | .int i => decide (0 ≤ i)
  | _ => false
def isIndex (n : Int) : PyData → Bool
  | .int i => decide (0 ≤ i) && decide (i < n)
  | _ => false
/-! ### what is a teller -/
def absI (i : Int) : Int := if i < 0 then -i else i
def isNum : PyData → Bool
  | .int i => decide (absI i < 1000000000000000000)
  | _ => false
def formL : List (Str × Str) := [("put", "rs"), ("get", "rk"), ("set", "rkn"), ("load", "rrk"), ("store", "rkr"), ("root", "ir"), ("take", "ri"), ("copy", "rr"), ("drop", "r"), ("same", "rr"), ("size", "r")]
def formS (w : Str) : Option Str := (formL.find? fun p => decide (p.1 = w)).map (·.2)
def partOk (R G : Int) (k : Str) : PyData → Bool
  | .int i => if k = "n" then decide (absI i < 1000000000000000000) else if k = "s" then decide (1 ≤ i) && decide (i ≤ 1000000000) else if k = "k" then decide (0 ≤ i) && decide (i ≤ 1000000000) else decide (0 ≤ i) && decide (i < if k = "i" then R else G)
  | _ => false
def kpart (R G : Int) (p : Nat × PyData) : Bool := partOk R G ⟨#[p.1]⟩ p.2
def isOp (R G : Int) : PyData → Bool
  | .tuple (.str w :: ps) => match formS w with
    | none => false
    | some f => decide (ps.length = f.cps.size) && (f.cps.toList.zip ps).all (kpart R G)
  | _ => false
def fillZ (cnt : Int) : PyData → PyData
  | .tuple [.str w, a, b, .tuple [.str u, i]] => if w = "set" ∧ u = "counter" ∧ isIndex cnt i = true then .tuple [.str w, a, b, .int 0] else .tuple [.str w, a, b, .tuple [.str u, i]]
  | d => d
def isDo (cnt R G : Int) (d : PyData) : Bool := isOp R G (fillZ cnt d)
def answerW : List Str := ["none", "range", "full", "value", "same", "size", "ok"]
def isTst (cnt : Int) : Nat → PyData → Bool
  | n + 1, .tuple (.str w :: rest) =>
    if w = "answer" then (match rest with | [.str u] => decide (u ∈ answerW) | _ => false)
    else if w = "true" then rest.isEmpty
    else if w = "not" then (match rest with | [y] => isTst cnt n y | _ => false)
    else decide (w ∈ (["less", "is"] : List Str)) && (match rest with | [a, b] => isIndex cnt a && isNum b | _ => false)
  | _, _ => false
def isStm (cnt R G : Int) (tst blk : PyData → Bool) : PyData → Bool
  | .tuple (.str w :: rest) =>
    if w = "do" then (match rest with | [o] => isDo cnt R G o | _ => false)
    else if w = "add" then (match rest with | [a, b] => isIndex cnt a && isNum b | _ => false)
    else if w = "keep" then (match rest with | [a] => isIndex cnt a | _ => false)
    else if w = "while" then (match rest with | [t, b] => tst t && blk b | _ => false)
    else if w = "if" then (match rest with | [t, a, b] => tst t && (blk a && blk b) | _ => false)
    else decide (w = "stop") && rest.isEmpty
  | _ => false
def isBlk (cnt R G : Int) : Nat → PyData → Bool
  | n + 1, .tuple ds => ds.all (isStm cnt R G (isTst cnt (n + 1)) (isBlk cnt R G n))
  | _, _ => false
def isTel (R G : Int) : PyData → Bool
  | .tuple [.int c, b] => decide (0 ≤ c) && decide (c ≤ 100) && isBlk c R G 21 b
  | _ => false
/-! ### the data that is read -/
inductive Dm (L : Nat) : Nat → PyData → Prop
  | non (n : Nat) : Dm L n .none
  | bool (n : Nat) (b : Bool) : Dm L n (.bool b)
  | int (n : Nat) (i : Int) : Dm L n (.int i)
  | str (n : Nat) (s : Str) : PyData.strOk s = true → Dm L n (.str s)
  | tup (n : Nat) (ds : List PyData) : ds.length ≤ L → (∀ d ∈ ds, Dm L n d) → Dm L (n + 1) (.tuple ds)
  | lst (n : Nat) (ds : List PyData) : ds.length ≤ L → (∀ d ∈ ds, Dm L n d) → Dm L (n + 1) (.list ds)
theorem Dm.le {L L' n m : Nat} {d : PyData} (h : Dm L n d) (hL : L ≤ L') : n ≤ m → Dm L' m d := by
  induction h generalizing m with
  | non n => intro _; exact .non m
  | bool n b => intro _; exact .bool m b
  | int n i => intro _; exact .int m i
  | str n s hs => intro _; exact .str m s hs
  | tup n ds hl hm ih =>
    intro hmn
    obtain ⟨m, rfl⟩ : ∃ m', m = m' + 1 := ⟨m - 1, by omega⟩
    exact .tup m ds (by omega) fun d hd => ih d hd (by omega)
  | lst n ds hl hm ih =>
    intro hmn
    obtain ⟨m, rfl⟩ : ∃ m', m = m' + 1 := ⟨m - 1, by omega⟩
    exact .lst m ds (by omega) fun d hd => ih d hd (by omega)
theorem canLayAll_iff : ∀ ds : List PyData, PyData.canLayAll0 ds = true ↔ ∀ d ∈ ds, d.canLay0 = true
  | [] => by simp [PyData.canLayAll0]
  | x :: xs => by simp [PyData.canLayAll0, canLayAll_iff xs]
theorem depthAll_iff (n : Nat) : ∀ ds : List PyData, PyData.depthAll ds ≤ n ↔ ∀ d ∈ ds, d.depth ≤ n
  | [] => by simp [PyData.depthAll]
  | x :: xs => by simp [PyData.depthAll, Nat.max_le, depthAll_iff n xs]
theorem Dm.lay {L n : Nat} {d : PyData} (h : Dm L n d) : d.canLay0 = true ∧ d.depth ≤ n := by
  induction h with
  | non n => exact ⟨by rw [PyData.canLay0], by rw [PyData.depth]; omega⟩
  | bool n b => exact ⟨by rw [PyData.canLay0], by rw [PyData.depth]; omega⟩
  | int n i => exact ⟨by rw [PyData.canLay0], by rw [PyData.depth]; omega⟩
  | str n s hs => exact ⟨by rw [PyData.canLay0]; exact hs, by rw [PyData.depth]; omega⟩
  | tup n ds hl hm ih =>
    refine ⟨?_, ?_⟩
    · rw [PyData.canLay0, canLayAll_iff]; exact fun d hd => (ih d hd).1
    · rw [PyData.depth, Nat.add_le_add_iff_right, depthAll_iff]; exact fun d hd => (ih d hd).2
  | lst n ds hl hm ih =>
    refine ⟨?_, ?_⟩
    · rw [PyData.canLay0, canLayAll_iff]; exact fun d hd => (ih d hd).1
    · rw [PyData.depth, Nat.add_le_add_iff_right, depthAll_iff]; exact fun d hd => (ih d hd).2
theorem Dm.sh {L n : Nat} {d : PyData} (h : Dm L n d) (hn : n ≤ 64) : SeqAt.shaped d = true := by
  unfold SeqAt.shaped
  rw [h.lay.1, decide_eq_true (Nat.le_trans h.lay.2 hn)]; rfl
/-- what is read: small enough -/
abbrev Rd0 (d : PyData) : Prop := ∃ n, n ≤ 64 ∧ Dm 100 n d
theorem Rd0.sh {d : PyData} (h : Rd0 d) : SeqAt.shaped d = true := by obtain ⟨n, hn, h⟩ := h; exact h.sh hn
theorem Rd0.tup {ds : List PyData} (h : Rd0 (.tuple ds)) : ds.length ≤ 100 ∧ ∀ d ∈ ds, Rd0 d := by
  obtain ⟨n, hn, h⟩ := h
  cases h with
  | tup n _ hl hm => exact ⟨hl, fun d hd => ⟨n, by omega, hm d hd⟩⟩
theorem sh_str {s : Str} (h : PyData.strOk s = true) : SeqAt.shaped (.str s) = true := by simp [SeqAt.shaped, PyData.canLay0, PyData.depth, h]
theorem eqv_str (s : Str) : ∀ d, PyData.eqv d (.str s) = (match d with | .str t => decide (t = s) | _ => false)
  | .none => by simp [PyData.eqv]
  | .bool _ => by simp [PyData.eqv]
  | .int _ => by simp [PyData.eqv]
  | .str t => by
    rw [PyData.eqv]
    show (t == s) = decide (t = s)
    by_cases h : t = s
    · subst h; simp
    · rw [decide_eq_false h]; exact beq_eq_false_iff_ne.mpr h
  | .list _ => by simp [PyData.eqv]
  | .tuple _ => by simp [PyData.eqv]
  | .dict _ => by simp [PyData.eqv]
theorem isStrEq {d : PyData} {s : Str} (h : PyData.eqv d (.str s) = true) : d = .str s := by
  rw [eqv_str] at h
  cases d with
  | str t => rw [show t = s from of_decide_eq_true h]
  | _ => cases h
theorem fill_same {cnt : Int} {x : PyData} (h : ∀ b c i, x = .tuple [.str "set", b, c, .tuple [.str "counter", i]] → isIndex cnt i = false) : fillZ cnt x = x := by
  unfold fillZ
  split
  · rename_i w a b u i
    split
    · rename_i hc
      obtain ⟨rfl, rfl, hi⟩ := hc
      rw [h _ _ _ rfl] at hi; cases hi
    · rfl
  · rfl
theorem fill_set {cnt : Int} {b c i : PyData} (h : isIndex cnt i = true) : fillZ cnt (.tuple [.str "set", b, c, .tuple [.str "counter", i]]) = .tuple [.str "set", b, c, .int 0] := by
  show (if ("set" : Str) = "set" ∧ ("counter" : Str) = "counter" ∧ isIndex cnt i = true then _ else _) = _
  rw [if_pos ⟨rfl, rfl, h⟩]
theorem Rd0.of {L n : Nat} {d : PyData} (h : Dm L n d) (hL : L ≤ 100) (hn : n ≤ 64) : Rd0 d := ⟨n, hn, h.le hL (Nat.le_refl _)⟩
theorem rd_fill {cnt : Int} {x : PyData} (h : Rd0 x) : Rd0 (fillZ cnt x) := by
  by_cases c : ∃ b e i, x = .tuple [.str "set", b, e, .tuple [.str "counter", i]] ∧ isIndex cnt i = true
  · obtain ⟨b, e, i, rfl, hi⟩ := c
    rw [fill_set hi]
    obtain ⟨n, hn, h⟩ := h
    cases h with
    | tup n _ hl hm => exact ⟨n + 1, hn, .tup n _ hl fun d hd => by
        simp only [List.mem_cons, List.not_mem_nil, or_false] at hd
        rcases hd with rfl | rfl | rfl | rfl
        · exact hm _ (by simp)
        · exact hm _ (by simp)
        · exact hm _ (by simp)
        · exact .int _ _⟩
  · rw [fill_same fun b e i he => by
      cases hi : isIndex cnt i with
      | false => rfl
      | true => exact absurd ⟨b, e, i, he, hi⟩ c]
    exact h
end K96
set_option Elab.async false
set_option linter.all false
set_option maxRecDepth 100000
set_option maxHeartbeats 4000000
namespace K96
open PySem PySem.Spec PyProof.Rows L2 Evl Pd Wl

theorem Rd0.nd {d : PyData} (h : Rd0 d) : ∀ k, d ≠ .dict k := by
  rintro k rfl
  obtain ⟨n, _, h⟩ := h
  cases h
def D_is_integer (ds : List PyData) (h : Lh) (P : Wv) : Prop := ∃ x, ds = [x] ∧ Rd0 x ∧ P (.bool (isInt x)) h
def D_is_count (ds : List PyData) (h : Lh) (P : Wv) : Prop := ∃ x, ds = [x] ∧ Rd0 x ∧ P (.bool (isCount x)) h
def D_is_index (ds : List PyData) (h : Lh) (P : Wv) : Prop := ∃ x n, ds = [x, .int n] ∧ Rd0 x ∧ P (.bool (isIndex n x)) h
def D_is_number (ds : List PyData) (h : Lh) (P : Wv) : Prop := ∃ x, ds = [x] ∧ Rd0 x ∧ P (.bool (isNum x)) h
def D_is_part (ds : List PyData) (h : Lh) (P : Wv) : Prop := ∃ k x R G, ds = [.str k, x, .int R, .int G] ∧ Rd0 x ∧ P (.bool (partOk R G k x)) h
section
variable {P : Program} {w : World} {K : PySem.W.Frag} {mg : Str → Option Value} {base : Heap}
theorem cal_is_integer (S : Src K mg "is_integer" st_is_integer ["value"]) (T : Txt K mg) : Cal P w K mg base CX0 1 "is_integer" ["value"] (SpW K D_is_integer) := by
  have sc := sc_is_integer
  refine S.cal (k := 0) sc (SpW.len fun ds h P z => by obtain ⟨_, rfl, _⟩ := z; rfl) (fun f cdv A outer s H vs Q E hr h => ⟨_, (pss_one (ps_ret (pe_and (pe_callB (k_isi (K := K) rfl) (by rfl) T.n_isinstance (by decide +kernel) (pa_cons (pv 0) (pa_cons (pe_bltn (v := .ty "int") (by rfl) T.n_int (by decide +kernel) rfl) pa_nil))) (pe_one (pe_not (pe_callB (k_isi (K := K) rfl) (by rfl) T.n_isinstance (by decide +kernel) (pa_cons (pv 0) (pa_cons (pe_bltn (v := .ty "bool") (by rfl) T.n_bool (by decide +kernel) rfl) pa_nil)))))))), h.enter fun ds lh P hD => ?_⟩)
  obtain ⟨x, rfl, rx, hk⟩ := hD
  cases x with
  | dict k => exact absurd rfl (rx.nd k)
  | _ => simpa [isInt] using hk
theorem cal_is_count (S : Src K mg "is_count" st_is_count ["value"]) (T : Txt K mg) (C_is_integer : Cal P w K mg base CX0 1 "is_integer" ["value"] (SpW K D_is_integer)) : Cal P w K mg base CX0 2 "is_count" ["value"] (SpW K D_is_count) := by
  have sc := sc_is_count
  refine S.cal (k := 1) sc (SpW.len fun ds h P z => by obtain ⟨_, rfl, _⟩ := z; rfl) (fun f cdv A outer s H vs Q E hr h => ⟨_, (pss_one (ps_ret (pe_and (pe_cal C_is_integer (hr.mono (by first | decide | omega)) rfl pass0 (pa_cons (pv 0) pa_nil)) (pe_one (pe_cmpR op_ge (pv 0) pe_int (nomark _)))))), h.enter fun ds lh P hD => ?_⟩)
  obtain ⟨x, rfl, rx, hk⟩ := hD
  cases x <;> simpa [isInt, isCount, D_is_integer, rx] using hk
theorem cal_is_index (S : Src K mg "is_index" st_is_index ["value", "count"]) (T : Txt K mg) (C_is_count : Cal P w K mg base CX0 2 "is_count" ["value"] (SpW K D_is_count)) : Cal P w K mg base CX0 3 "is_index" ["value", "count"] (SpW K D_is_index) := by
  have sc := sc_is_index
  refine S.cal (k := 2) sc (SpW.len fun ds h P z => by obtain ⟨_, _, rfl, _⟩ := z; rfl) (fun f cdv A outer s H vs Q E hr h => ⟨_, (pss_one (ps_ret (pe_and (pe_cal C_is_count (hr.mono (by first | decide | omega)) rfl pass0 (pa_cons (pv 0) pa_nil)) (pe_one (pe_cmpR op_lt (pv 0) (pv 1) (nomark _)))))), h.enter fun ds lh P hD => ?_⟩)
  obtain ⟨x, n, rfl, rx, hk⟩ := hD
  cases x <;> simp [isIndex, isCount, D_is_count, rx] at hk ⊢ <;> exact hk
theorem cal_is_number (S : Src K mg "is_number" st_is_number ["value"]) (T : Txt K mg) (C_is_integer : Cal P w K mg base CX0 1 "is_integer" ["value"] (SpW K D_is_integer)) : Cal P w K mg base CX0 2 "is_number" ["value"] (SpW K D_is_number) := by
  have sc := sc_is_number
  refine S.cal (k := 1) sc (SpW.len fun ds h P z => by obtain ⟨_, rfl, _⟩ := z; rfl) (fun f cdv A outer s H vs Q E hr h => ⟨_, (pss_one (ps_ret (pe_and (pe_cal C_is_integer (hr.mono (by first | decide | omega)) rfl pass0 (pa_cons (pv 0) pa_nil)) (pe_one (pe_cmpR op_lt (pe_callB call_abs (by rfl) T.n_abs (by decide +kernel) (pa_cons (pv 0) pa_nil)) (pe_gl rfl T.c_LIMIT) (nomark _)))))), h.enter fun ds lh P hD => ?_⟩)
  obtain ⟨x, rfl, rx, hk⟩ := hD
  cases x <;> simp [isInt, isNum, D_is_integer, rx, absI] at hk ⊢ <;> exact hk
theorem cal_is_part (S : Src K mg "is_part" st_is_part ["kind", "value", "roots", "registers"]) (T : Txt K mg) (C_is_integer : Cal P w K mg base CX0 1 "is_integer" ["value"] (SpW K D_is_integer)) : Cal P w K mg base CX0 2 "is_part" ["kind", "value", "roots", "registers"] (SpW K D_is_part) := by
  have sc := sc_is_part
  refine S.cal (k := 1) sc (SpW.len fun ds h P z => by obtain ⟨_, _, _, _, rfl, _⟩ := z; rfl) (fun f cdv A outer s H vs Q E hr h => ⟨_, (pss_cons (ps_if (pt_not (pt_val (pe_cal C_is_integer (hr.mono (by first | decide | omega)) rfl pass0 (pa_cons (pv 1) pa_nil)))) (pss_one (ps_ret pe_bl)) pss_nil)
  (pss_cons (ps_if (pt_cmpR op_eq (pv 0) pe_str (nomark _)) (pss_one (ps_ret (pe_cmpR op_lt (pe_callB call_abs (by rfl) T.n_abs (by decide +kernel) (pa_cons (pv 1) pa_nil)) (pe_gl rfl T.c_LIMIT) (nomark _)))) pss_nil)
  (pss_cons (ps_if (pt_cmpR op_eq (pv 0) pe_str (nomark _)) (pss_one (ps_ret (pe_and (pe_cmpR op_le pe_int (pv 1) (nomark _)) (pe_one (pe_cmpR op_le (pv 1) (pe_gl rfl T.c_MOST_INDEX) (nomark _)))))) pss_nil)
  (pss_cons (ps_if (pt_cmpR op_eq (pv 0) pe_str (nomark _)) (pss_one (ps_ret (pe_and (pe_cmpR op_le pe_int (pv 1) (nomark _)) (pe_one (pe_cmpR op_le (pv 1) (pe_gl rfl T.c_MOST_INDEX) (nomark _)))))) pss_nil)
  (pss_one (ps_ret (pe_and (pe_cmpR op_le pe_int (pv 1) (nomark _)) (pe_one (pe_cmpR op_lt (pv 1) (pe_ifExp (pt_cmpR op_eq (pv 0) pe_str (nomark _)) (pv 2) (pv 3)) (nomark _)))))))))), h.enter fun ds lh P hD => ?_⟩)
  obtain ⟨k, x, R, G, rfl, rx, hk⟩ := hD
  cases x with
  | int j =>
    simp [D_is_integer, isInt, rx]
    refine wCond.p (fun h1 => ?_) fun h1 => ?_
    · simp [partOk, h1, absI] at hk; exact hk
    refine wCond.p (fun h2 => ?_) fun h2 => ?_
    · simp [partOk, h1, h2] at hk ⊢; exact hk
    refine wCond.p (fun h3 => ?_) fun h3 => ?_
    · simp [partOk, h1, h2, h3] at hk ⊢; exact hk
    simp [partOk, h1, h2, h3] at hk
    by_cases h4 : k = "i" <;> simp [h4] at hk ⊢ <;> exact hk
  | _ => simpa [D_is_integer, isInt, rx, partOk] using hk
end
end K96
set_option Elab.async false
set_option linter.all false
set_option maxRecDepth 100000
set_option maxHeartbeats 4000000
namespace K96
open PySem PySem.Spec PyProof.Rows L2 Evl Pd Wl
/-! ### the text's tuple and dict -/
inductive EntR : List (Str × Str) → List DictEntry → Prop
  | nil : EntR [] []
  | cons {a b : Str} {e : DictEntry} {l : List (Str × Str)} {es : List DictEntry} (t u : Tok) : e.key = .str a t → e.val = .str b u → EntR l es → EntR ((a, b) :: l) (e :: es)
theorem EntR.find {z : Str} : ∀ {l : List (Str × Str)} {es : List DictEntry}, EntR l es → (match (l.find? fun p => decide (p.1 = z)).map (·.2) with | none => es.find? (·.key.isStr z) = none | some b => ∃ e u, es.find? (·.key.isStr z) = some e ∧ e.val = .str b u) ∧ es.any (·.refKey) = false
  | _, _, .nil => ⟨rfl, rfl⟩
  | _, _, .cons (a := a) (b := b) (e := e) (l := l) (es := es) t u h1 h2 h => by
    have ih := EntR.find (z := z) h
    have k : e.key.isStr z = decide (a = z) := by
      rw [h1]
      show (a == z) = _
      by_cases c : a = z
      · subst c; simp
      · rw [decide_eq_false c]; exact beq_eq_false_iff_ne.mpr c
    refine ⟨?_, ?_⟩
    · rw [List.find?_cons, List.find?_cons, k]
      by_cases c : a = z
      · rw [decide_eq_true c]; exact ⟨e, u, rfl, h2⟩
      · rw [decide_eq_false c]; exact ih.1
    · rw [List.any_cons, ih.2, Bool.or_false]
      unfold DictEntry.refKey
      rw [h1]
structure FTxt (K : PySem.W.Frag) (w : World) (mg : Str → Option Value) (aF aW : Addr) (es : Array DictEntry) (n : Nat) : Prop where
  c_FORMS : ∃ u, mg "FORMS" = some u ∧ RelV (.ref aF) u
  c_WORDS : ∃ u, mg "WORDS" = some u ∧ RelV (.ref aW) u
  kd : KDict K w aF es n
  ent : EntR formL es.toList
  words : ∀ H, SqT K H aW (answerW.map V.str)
theorem FTxt.look {K : PySem.W.Frag} {w : World} {mg : Str → Option Value} {aF aW : Addr} {es : Array DictEntry} {n : Nat} (F : FTxt K w mg aF aW es n) (z : Str) : ∃ r : Option Value, PySem.W.nsIn K aF z = some r ∧ r.isSome = (formS z).isSome ∧ ∀ f, formS z = some f → KDct K w aF z (.str f) := by
  have h := F.ent.find (z := z)
  have hn : PySem.W.nsIn K aF z = (match es.toList.find? (·.key.isStr z) with | some e => some (some e.val) | none => if es.toList.any (·.refKey) then none else some none) := by
    unfold PySem.W.nsIn
    rw [F.kd.at_]
    rfl
  change (match formS z with | none => es.toList.find? (·.key.isStr z) = none | some b => ∃ e u, es.toList.find? (·.key.isStr z) = some e ∧ e.val = .str b u) ∧ _ at h
  cases hf : formS z with
  | none =>
    rw [hf] at h
    rw [h.1, h.2] at hn
    exact ⟨none, hn, rfl, fun f hf => by cases hf⟩
  | some b =>
    rw [hf] at h
    obtain ⟨⟨e, u, h1, h2⟩, _⟩ := h
    rw [h1] at hn
    exact ⟨some e.val, hn, rfl, fun f hf => by cases hf; exact ⟨es, n, e.val, F.kd.at_, F.kd.lit, hn, by rw [h2]; exact ⟨u, rfl⟩⟩⟩
theorem forms_ok : ∀ p ∈ formL, p.2.cps.all (· < 128) = true ∧ p.2.cps.size ≤ 3 ∧ p.2.length ≤ 3 := by decide +kernel
theorem formS_mem {w : Str} {f : Str} (h : formS w = some f) : (w, f) ∈ formL := by
  unfold formS at h
  obtain ⟨p, hp, rfl⟩ := Option.map_eq_some_iff.mp h
  have h1 := List.mem_of_find?_eq_some hp
  have h2 := List.find?_some hp
  have : p.1 = w := of_decide_eq_true h2
  rw [← this]; exact h1
theorem all_map {α : Type} (l : List α) (f : α → Bool) : (l.map f).all id = l.all f := by rw [List.all_map]; rfl

theorem FTxt.tab {K : PySem.W.Frag} {w : World} {mg : Str → Option Value} {aF aW : Addr} {es : Array DictEntry} {n : Nat} (F : FTxt K w mg aF aW es n) : KTab K w aF formS := ⟨F.look⟩
theorem FTxt.wd {K : PySem.W.Frag} {w : World} {mg : Str → Option Value} {aF aW : Addr} {es : Array DictEntry} {n : Nat} (F : FTxt K w mg aF aW es n) : KD K aW (.tuple (answerW.map .str)) := ⟨fun N H h => by
  rcases F.words (fun _ => none) with q | q
  · rcases q with q | ⟨o, q⟩ <;> cases q
  · refine .tup (.inr q) ?_
    have : ∀ l : List Str, Rls K N H h (l.map V.str) (l.map PyData.str) := fun l => by
      induction l with
      | nil => exact .nil
      | cons a l ih => exact .cons (.str a) ih
    exact this _⟩
theorem Rd0.pure {d : PyData} (h : Rd0 d) : Wl.clean d = true := by
  obtain ⟨n, hn, h⟩ := h
  clear hn
  induction h with
  | tup n ds _ _ ih => rw [clean_tup, cleans_iff]; exact ih
  | lst n ds _ _ ih => rw [clean_lst, cleans_iff]; exact ih
  | _ => simp
theorem head_or (x : PyData) : (∃ w ds, x = .tuple (.str w :: ds)) ∨ ∀ w ds, x ≠ .tuple (.str w :: ds) := by
  by_cases h : ∃ w ds, x = .tuple (.str w :: ds)
  · exact .inl h
  · exact .inr fun w ds e => h ⟨w, ds, e⟩
def D_is_op (ds : List PyData) (h : Lh) (P : Wv) : Prop := ∃ x R G, ds = [x, .int R, .int G] ∧ Rd0 x ∧ P (.bool (isOp R G x)) h
section
variable {P : Program} {w : World} {K : PySem.W.Frag} {mg : Str → Option Value} {base : Heap} {aF aW : Addr} {es : Array DictEntry} {nF : Nat}
theorem cal_is_operation (S : SrcK K mg "is_operation" st_is_operation ["value", "roots", "registers"] 1 ["roots", "registers"]) (T : Txt K mg) (FT : FTxt K w mg aF aW es nF) (C_is_part : Cal P w K mg base CX0 2 "is_part" ["kind", "value", "roots", "registers"] (SpW K D_is_part)) : CalK P w K mg base CX0 3 "is_operation" ["value", "roots", "registers"] 1 ["roots", "registers"] (SpW K D_is_op) := by
  have sc := sc_is_operation
  haveI := FT.tab
  haveI := fun {XX : XP} {ta : TE} {a : WE} [A : RE K XX ta a] => tab_not (K := K) (XX := XX) w (p := aF) (look := formS) (ta := ta) (a := a)
  refine S.cal (k := 2) sc (SpW.len fun ds h P z => by obtain ⟨_, _, _, rfl, _⟩ := z; rfl) (fun f cdv A outer s H vs Q E hr h => ⟨_, (pss_cons (ps_if (PW.pt (pw_or (pt_not (pt_val (pe_callB (k_isi (K := K) rfl) (by rfl) T.n_isinstance (by decide +kernel) (pa_cons (pv 0) (pa_cons (pe_bltn (v := .ty "tuple") (by rfl) T.n_tuple (by decide +kernel) rfl) pa_nil))))) (pw_or (pt_cmpR (k_eqD (K := K) rfl (hr.units)) (pv 0) (pe_tup pa_nil) (nomark _)) (pw_or (pt_not (pt_val (pe_callB (k_isi (K := K) rfl) (by rfl) T.n_isinstance (by decide +kernel) (pa_cons (pe_ix (k_ix_tup (K := K) rfl) (pv 0) pe_int (fun _ _ => rfl)) (pa_cons (pe_bltn (v := .ty "str") (by rfl) T.n_str (by decide +kernel) rfl) pa_nil))))) (pw_or1 (pt_cmpR (k_notIn_kd (K := K) rfl FT.kd) (pe_ix (k_ix_tup (K := K) rfl) (pv 0) pe_int (fun _ _ => rfl)) (pe_gl rfl FT.c_FORMS) (by rfl))))))) (pss_one (ps_ret pe_bl)) pss_nil)
  (pss_cons (ps_set (i := 3) sc.nd rfl (by first | exact Or.inl rfl | exact Or.inr rfl) (pe_ix (k_ix_kd (K := K) (w := w) rfl rfl) (pe_gl rfl FT.c_FORMS) (pe_ix (k_ix_tup (K := K) rfl) (pv 0) pe_int (fun _ _ => rfl)) (fun _ _ => rfl)))
  (pss_cons (ps_if (pt_cmpR op_ne (pe_callB (k_len_seq (K := K) rfl) (by rfl) T.n_len PySem.boot_len (pa_cons (pv 0) pa_nil)) (pe_op op_add (pe_callB call_len_str (by rfl) T.n_len PySem.boot_len (pa_cons (pv 3) pa_nil)) pe_int) (nomark _)) (pss_one (ps_ret pe_bl)) pss_nil)
  (pss_one (ps_ret (pe_callB (k_all (K := K) rfl rfl) (by rfl) T.n_all (by decide +kernel) (pa_cons (pe_lc (own := [("kind", 4), ("part", 5)]) rfl sc.nd (k_pi_zipS (K := K) rfl (by rfl) T.n_zip (pa_cons (pv 3) (pa_cons (pe_slice (k_sl_tupA (K := K) rfl) (pv 0) (po_some pe_int) po_none) pa_nil))) (blkOk_by (by first | decide +kernel | kernel_rfl)) (fun _ _ _ _ _ => (k_pg_tup (K := K) (n := 2) rfl rfl (pgs_cons (pg_name (i := 4) sc.nd rfl (by first | exact Or.inl rfl | exact Or.inr rfl)) (pgs_cons (pg_name (i := 5) sc.nd rfl (by first | exact Or.inl rfl | exact Or.inr rfl)) pgs_nil)))) (fun _ _ _ _ _ => pts_nil) (fun _ _ _ _ _ => (pe_cal C_is_part (hr.mono (by first | decide | omega)) rfl pass0 (pa_cons (pv 4) (pa_cons (pv 5) (pa_cons (pv 1) (pa_cons (pv 2) pa_nil))))))) pa_nil))))))), h.enter fun ds lh P hD => ?_⟩)
  obtain ⟨x, R, G, rfl, rx, hk⟩ := hD
  have hp := rx.pure
  have hs := rx.sh
  rcases head_or x with ⟨wd, ps, rfl⟩ | hx
  · simp at hp
    have eop : isOp R G (.tuple (.str wd :: ps)) = match formS wd with | none => false | some f => decide (ps.length = f.cps.size) && (f.cps.toList.zip ps).all (kpart R G) := rfl
    rw [eop] at hk
    simp [hp, hs, wCond]
    cases hf : formS wd with
    | none => rw [hf] at hk; simpa using hk
    | some fm =>
      rw [hf] at hk
      have fok : fm.cps.all (· < 128) = true ∧ fm.cps.size ≤ 3 ∧ fm.length ≤ 3 := forms_ok (wd, fm) (formS_mem hf)
      have hln : fm.length = fm.cps.size := rfl
      simp
      refine ⟨by omega, fun hb => ?_, fun hb => ?_⟩
      · simp [show ¬ ps.length = fm.cps.size from hb] at hk; exact hk
      · simp [show ps.length = fm.cps.size from hb] at hk
        have eq : Pd.pairs (Pd.signs fm) ps = (fm.cps.toList.zip ps).map fun p => PyData.tuple [.str ⟨#[p.1]⟩, p.2] := by
          unfold Pd.pairs Pd.signs
          rw [List.zip_map_left, List.map_map]; rfl
        simp [hb, hln, eq]
        refine ⟨by simpa using fok.1, ?_⟩
        refine lcL_map (fun p => .bool (kpart R G p)) trivial (by have := fok.2.1; simp; omega) (fun p hp' F hF => ?_) ?_
        · have : Rd0 p.2 := rx.tup.2 _ (List.mem_cons_of_mem _ (List.of_mem_zip hp').2)
          simp [D_is_part, this]
          exact hF
        · simp only [boolL_mapF]
          simpa using hk
  · have e0 : isOp R G x = false := by
      unfold isOp
      split
      · exact absurd rfl (hx _ _)
      · rfl
    rw [e0] at hk
    cases x with
    | tuple ds =>
      cases ds with
      | nil => simpa using hk
      | cons a l =>
        simp at hp
        cases a with
        | str s => exact absurd rfl (hx s l)
        | dict k => simp [Wl.clean] at hp
        | _ => simpa [hp, hs] using hk
    | dict k => exact absurd rfl (rx.nd k)
    | _ => simpa using hk
end
end K96
set_option Elab.async false
set_option linter.all false
set_option maxRecDepth 100000
set_option maxHeartbeats 4000000
set_option synthInstance.maxHeartbeats 1000000
set_option synthInstance.maxSize 1000000
namespace K96
open PySem PySem.Spec PyProof.Rows L2 Evl Pd Wl
def D_is_test (n : Nat) (ds : List PyData) (h : Lh) (P : Wv) : Prop := ∃ x cnt dep, ds = [x, .int cnt, .int dep] ∧ Rd0 x ∧ (dep + 1).toNat ≤ n ∧ P (.bool (isTst cnt (dep + 1).toNat x)) h
def D_filled (ds : List PyData) (h : Lh) (P : Wv) : Prop := ∃ x c, ds = [x, .tuple (List.replicate c (.int 0))] ∧ Rd0 x ∧ P (fillZ (c : Int) x) h
section
variable {P : Program} {w : World} {K : PySem.W.Frag} {mg : Str → Option Value} {base : Heap} {aF aW : Addr} {es : Array DictEntry} {nF : Nat}
theorem cal_none {x : Str} {st : Stmt} {ps : List Str} {CX : CXT} {k : Nat} (S : Src K mg x st ps) : Cal P w K mg base CX k x ps (SpW K fun _ _ _ => False) := by
  obtain ⟨f, fd, hm, hF, hb⟩ := S.ex
  exact ⟨f, fd, hm, hF.kp, hb, ⟨fun _ _ _ _ ⟨_, _, _, _, _, _, _, h, _⟩ => h.elim, fun _ _ _ _ _ _ _ _ _ _ _ _ _ ⟨_, _, _, _, _, _, _, h, _⟩ => h.elim⟩⟩
theorem isTst_succ (cnt : Int) (m : Nat) (wd : Str) (rest : List PyData) : isTst cnt (m + 1) (.tuple (.str wd :: rest)) = (if wd = "answer" then (match rest with | [.str u] => decide (u ∈ answerW) | _ => false)
      else if wd = "true" then rest.isEmpty
      else if wd = "not" then (match rest with | [y] => isTst cnt m y | _ => false)
      else decide (wd ∈ (["less", "is"] : List Str)) && (match rest with | [a, b] => isIndex cnt a && isNum b | _ => false)) := by first | rfl | (unfold isTst; rfl)
theorem test_step {k n : Nat} {D' : List PyData → Lh → Wv → Prop} (S : Src K mg "is_test" st_is_test ["value", "count", "depth"]) (T : Txt K mg) (FT : FTxt K w mg aF aW es nF) (C_is_index : Cal P w K mg base CX0 3 "is_index" ["value", "count"] (SpW K D_is_index)) (C_is_number : Cal P w K mg base CX0 2 "is_number" ["value"] (SpW K D_is_number))
    (hk3 : 3 ≤ k) (C_is_test : Cal P w K mg base CX0 k "is_test" ["value", "count", "depth"] (SpW K D')) (hn : ∀ m, n = m + 1 → D' = D_is_test m) : Cal P w K mg base CX0 (k + 1) "is_test" ["value", "count", "depth"] (SpW K (D_is_test n)) := by
  have sc := sc_is_test
  haveI := FT.wd
  refine S.cal (k := k) sc (SpW.len fun ds h P z => by obtain ⟨_, _, _, rfl, _⟩ := z; rfl) (fun f cdv A outer s H vs Q E hr h => ⟨_, (pss_cons (ps_if (PW.pt (pw_or (pt_not (pt_val (pe_callB (k_isi (K := K) rfl) (by rfl) T.n_isinstance (by decide +kernel) (pa_cons (pv 0) (pa_cons (pe_bltn (v := .ty "tuple") (by rfl) T.n_tuple (by decide +kernel) rfl) pa_nil))))) (pw_or (pt_cmpR (k_eqD (K := K) rfl (hr.units)) (pv 0) (pe_tup pa_nil) (nomark _)) (pw_or (pt_not (pt_val (pe_callB (k_isi (K := K) rfl) (by rfl) T.n_isinstance (by decide +kernel) (pa_cons (pe_ix (k_ix_tup (K := K) rfl) (pv 0) pe_int (fun _ _ => rfl)) (pa_cons (pe_bltn (v := .ty "str") (by rfl) T.n_str (by decide +kernel) rfl) pa_nil))))) (pw_or1 (pt_cmpR op_lt (pv 2) pe_int (nomark _))))))) (pss_one (ps_ret pe_bl)) pss_nil)
  (pss_cons (ps_if (pt_cmpR op_eq (pe_ix (k_ix_tup (K := K) rfl) (pv 0) pe_int (fun _ _ => rfl)) pe_str (nomark _)) (pss_one (ps_ret (pe_and (pe_cmpR op_eq (pe_callB (k_len_seq (K := K) rfl) (by rfl) T.n_len PySem.boot_len (pa_cons (pv 0) pa_nil)) pe_int (nomark _)) (pe_and (pe_callB (k_isi (K := K) rfl) (by rfl) T.n_isinstance (by decide +kernel) (pa_cons (pe_ix (k_ix_tup (K := K) rfl) (pv 0) pe_int (fun _ _ => rfl)) (pa_cons (pe_bltn (v := .ty "str") (by rfl) T.n_str (by decide +kernel) rfl) pa_nil))) (pe_one (pe_cmpR (k_in_seq (K := K) rfl) (pe_ix (k_ix_tup (K := K) rfl) (pv 0) pe_int (fun _ _ => rfl)) (pe_gl rfl FT.c_WORDS) (by rfl))))))) pss_nil)
  (pss_cons (ps_if (pt_cmpR op_eq (pe_ix (k_ix_tup (K := K) rfl) (pv 0) pe_int (fun _ _ => rfl)) pe_str (nomark _)) (pss_one (ps_ret (pe_cmpR op_eq (pe_callB (k_len_seq (K := K) rfl) (by rfl) T.n_len PySem.boot_len (pa_cons (pv 0) pa_nil)) pe_int (nomark _)))) pss_nil)
  (pss_cons (ps_if (pt_cmpR op_eq (pe_ix (k_ix_tup (K := K) rfl) (pv 0) pe_int (fun _ _ => rfl)) pe_str (nomark _)) (pss_one (ps_ret (pe_and (pe_cmpR op_eq (pe_callB (k_len_seq (K := K) rfl) (by rfl) T.n_len PySem.boot_len (pa_cons (pv 0) pa_nil)) pe_int (nomark _)) (pe_one (pe_cal C_is_test (hr.mono (by first | decide | omega)) rfl pass0 (pa_cons (pe_ix (k_ix_tup (K := K) rfl) (pv 0) pe_int (fun _ _ => rfl)) (pa_cons (pv 1) (pa_cons (pe_op op_sub (pv 2) pe_int) pa_nil)))))))) pss_nil)
  (pss_one (ps_ret (pe_and (pe_cmpR (k_in_seq (K := K) rfl) (pe_ix (k_ix_tup (K := K) rfl) (pv 0) pe_int (fun _ _ => rfl)) (pe_tup (pa_cons pe_str (pa_cons pe_str pa_nil))) (by rfl)) (pe_and (pe_cmpR op_eq (pe_callB (k_len_seq (K := K) rfl) (by rfl) T.n_len PySem.boot_len (pa_cons (pv 0) pa_nil)) pe_int (nomark _)) (pe_and (pe_cal C_is_index (hr.mono (by first | decide | omega)) rfl pass0 (pa_cons (pe_ix (k_ix_tup (K := K) rfl) (pv 0) pe_int (fun _ _ => rfl)) (pa_cons (pv 1) pa_nil))) (pe_one (pe_cal C_is_number (hr.mono (by first | decide | omega)) rfl pass0 (pa_cons (pe_ix (k_ix_tup (K := K) rfl) (pv 0) pe_int (fun _ _ => rfl)) pa_nil)))))))))))), h.enter fun ds lh P hD => ?_⟩)
  obtain ⟨x, cnt, dep, rfl, rx, hle, hk⟩ := hD
  have hp := rx.pure
  have hs := rx.sh
  rcases head_or x with ⟨wd, rest, rfl⟩ | hx
  · simp at hp
    simp [hp, hs]
    refine wCond.p (fun hd => ?_) fun hd => ?_
    · have hdn : (dep + 1).toNat = 0 := by omega
      rw [hdn] at hk
      have : isTst cnt 0 (.tuple (.str wd :: rest)) = false := by rw [isTst]; simp
      rw [this] at hk; exact hk
    obtain ⟨m, hm⟩ : ∃ m : Nat, dep = (m : Int) := ⟨dep.toNat, by omega⟩
    subst hm
    have hmn : (((m : Nat) : Int) + 1).toNat = m + 1 := by omega
    rw [hmn] at hle hk
    rw [isTst_succ] at hk
    have rr : ∀ y ∈ rest, Rd0 y := fun y hy => rx.tup.2 y (List.mem_cons_of_mem _ hy)
    refine wCond.p (fun h1 => ?_) fun h1 => ?_
    · rw [if_pos h1] at hk
      rcases rest with _ | ⟨y, _ | ⟨z, l⟩⟩
      · simpa using hk
      · have := rr y (by simp)
        cases y with
        | str u => simpa using hk
        | dict k => exact absurd rfl (this.nd k)
        | _ => simpa using hk
      · have : ¬ ((l.length : Int) + 1 + 1 + 1 = 2) := by omega
        simpa [this] using hk
    rw [if_neg h1] at hk
    refine wCond.p (fun h2 => ?_) fun h2 => ?_
    · rw [if_pos h2] at hk
      rcases rest with _ | ⟨y, l⟩
      · simpa using hk
      · have : ¬ ((l.length : Int) + 1 + 1 = 1) := by omega
        simpa [this] using hk
    rw [if_neg h2] at hk
    refine wCond.p (fun h3 => ?_) fun h3 => ?_
    · rw [if_pos h3] at hk
      rcases rest with _ | ⟨y, _ | ⟨z, l⟩⟩
      · simpa using hk
      · obtain ⟨n', rfl⟩ : ∃ n', n = n' + 1 := ⟨n - 1, by omega⟩
        have := hn n' rfl
        subst this
        have e1 : ((m : Int) - 1 + 1).toNat = m := by omega
        simp [D_is_test, rr y (by simp), e1]
        exact ⟨by omega, hk⟩
      · have : ¬ ((l.length : Int) + 1 + 1 + 1 = 2) := by omega
        simpa [this] using hk
    rw [if_neg h3] at hk
    rcases rest with _ | ⟨y, _ | ⟨z, _ | ⟨u, l⟩⟩⟩
    · simp at hk ⊢; exact hk
    · simp at hk ⊢; exact hk
    · simp [D_is_index, D_is_number, rr y (by simp), rr z (by simp)] at hk ⊢
      exact hk
    · have : ¬ ((l.length : Int) + 1 + 1 + 1 + 1 = 3) := by omega
      simp [this] at hk ⊢; exact hk
  · have e0 : isTst cnt (dep + 1).toNat x = false := by
      unfold isTst
      split
      · exact absurd rfl (hx _ _)
      · rfl
    rw [e0] at hk
    cases x with
    | tuple ds =>
      cases ds with
      | nil => simpa using hk
      | cons a l =>
        simp at hp
        cases a with
        | str s => exact absurd rfl (hx s l)
        | dict k => simp [Wl.clean] at hp
        | _ => simpa [hp, hs] using hk
    | dict k => exact absurd rfl (rx.nd k)
    | _ => simpa using hk
theorem cal_is_test (S : Src K mg "is_test" st_is_test ["value", "count", "depth"]) (T : Txt K mg) (FT : FTxt K w mg aF aW es nF) (C_is_index : Cal P w K mg base CX0 3 "is_index" ["value", "count"] (SpW K D_is_index)) (C_is_number : Cal P w K mg base CX0 2 "is_number" ["value"] (SpW K D_is_number)) : ∀ n, Cal P w K mg base CX0 (n + 4) "is_test" ["value", "count", "depth"] (SpW K (D_is_test n))
  | 0 => test_step S T FT C_is_index C_is_number (k := 3) (by omega) (cal_none S) (fun m h => by omega)
  | n + 1 => test_step S T FT C_is_index C_is_number (k := n + 4) (by omega) (cal_is_test S T FT C_is_index C_is_number n) (fun m h => by
      have : n = m := by omega
      rw [this])
theorem cal_filled (S : Src K mg "filled" st_filled ["operation", "counters"]) (T : Txt K mg) (C_is_index : Cal P w K mg base CX0 3 "is_index" ["value", "count"] (SpW K D_is_index)) : Cal P w K mg base CX0 4 "filled" ["operation", "counters"] (SpW K D_filled) := by
  have sc := sc_filled
  refine S.cal (k := 3) sc (SpW.len fun ds h P z => by obtain ⟨_, _, rfl, _⟩ := z; rfl) (fun f cdv A outer s H vs Q E hr h => ⟨_, (pss_cons (ps_if (PW.pt (pw_or (pt_not (pt_val (pe_callB (k_isi (K := K) rfl) (by rfl) T.n_isinstance (by decide +kernel) (pa_cons (pv 0) (pa_cons (pe_bltn (v := .ty "tuple") (by rfl) T.n_tuple (by decide +kernel) rfl) pa_nil))))) (pw_or (pt_cmpR op_ne (pe_callB (k_len_seq (K := K) rfl) (by rfl) T.n_len PySem.boot_len (pa_cons (pv 0) pa_nil)) pe_int (nomark _)) (pw_or1 (pt_cmpR (k_neD (K := K) rfl (hr.units)) (pe_ix (k_ix_tup (K := K) rfl) (pv 0) pe_int (fun _ _ => rfl)) pe_str (nomark _)))))) (pss_one (ps_ret (pv 0))) pss_nil)
  (pss_cons (ps_set (i := 2) sc.nd rfl (by first | exact Or.inl rfl | exact Or.inr rfl) (pe_ix (k_ix_tup (K := K) rfl) (pv 0) pe_int (fun _ _ => rfl)))
  (pss_cons (ps_if (PW.pt (pw_and (pt_val (pe_callB (k_isi (K := K) rfl) (by rfl) T.n_isinstance (by decide +kernel) (pa_cons (pv 2) (pa_cons (pe_bltn (v := .ty "tuple") (by rfl) T.n_tuple (by decide +kernel) rfl) pa_nil)))) (pw_and (pt_cmpR op_eq (pe_callB (k_len_seq (K := K) rfl) (by rfl) T.n_len PySem.boot_len (pa_cons (pv 2) pa_nil)) pe_int (nomark _)) (pw_and (pt_cmpR (k_eqD (K := K) rfl (hr.units)) (pe_ix (k_ix_tup (K := K) rfl) (pv 2) pe_int (fun _ _ => rfl)) (pe_gl rfl T.c_COUNTER) (nomark _)) (pw_and1 (pt_val (pe_cal C_is_index (hr.mono (by first | decide | omega)) rfl pass0 (pa_cons (pe_ix (k_ix_tup (K := K) rfl) (pv 2) pe_int (fun _ _ => rfl)) (pa_cons (pe_callB (k_len_seq (K := K) rfl) (by rfl) T.n_len PySem.boot_len (pa_cons (pv 1) pa_nil)) pa_nil))))))))) (pss_one (ps_ret (pe_op (k_catA (K := K) rfl) (pe_slice (k_sl_tupA (K := K) rfl) (pv 0) po_none (po_some pe_int)) (pe_tup (pa_cons (pe_ix (k_ix_tup (K := K) rfl) (pv 1) (pe_ix (k_ix_tup (K := K) rfl) (pv 2) pe_int (fun _ _ => rfl)) (fun _ _ => rfl)) pa_nil))))) pss_nil)
  (pss_one (ps_ret (pv 0)))))), h.enter fun ds lh P hD => ?_⟩)
  obtain ⟨x, c, rfl, rx, hk⟩ := hD
  have hp := rx.pure
  have hs := rx.sh
  have sset : SeqAt.shaped (.str "set") = true := sh_str (by decide +kernel)
  have scou : SeqAt.shaped (.str "counter") = true := sh_str (by decide +kernel)
  by_cases h4 : ∃ a b e l, x = .tuple [a, b, e, l]
  · obtain ⟨a, b, e, l, rfl⟩ := h4
    have ra := rx.tup.2 a (by simp)
    have rl := rx.tup.2 l (by simp)
    have pa := ra.pure
    have sa := ra.sh
    have pl := rl.pure
    have sl := rl.sh
    simp at hp
    have sna : snap lh a = a := by cases a with | dict k => exact absurd rfl (ra.nd k) | _ => rfl
    simp [sna, pa, sa, sset, scou]
    refine wCond.i (fun ha => ?_) fun ha => ?_
    · have ha := isStrEq ha
      subst ha
      have same : (∀ i', l = .tuple [.str "counter", i'] → isIndex (c : Int) i' = false) → P (.tuple [.str "set", b, e, l]) lh := fun h => by
        rw [fill_same fun b' c' i' he => by cases he; exact h _ rfl] at hk
        exact hk
      cases l with
      | tuple ds =>
        have no : (ds.length : Int) ≠ 2 → P (.tuple [.str "set", b, e, .tuple ds]) lh := fun z => same fun i' he => by
          cases he; simp at z
        refine ⟨by simp, ?_⟩
        simp
        refine wCond.p (fun hl => ?_) no
        rcases ds with _ | ⟨p, _ | ⟨q, _ | ⟨u, r⟩⟩⟩
        · simp at hl
        · simp at hl
        · have rp := rl.tup.2 p (by simp)
          have rq := rl.tup.2 q (by simp)
          have snp : snap lh p = p := by cases p with | dict k => exact absurd rfl (rp.nd k) | _ => rfl
          simp [snp, rp.pure, rp.sh, D_is_index, rq]
          refine wCond.i (fun hc => ?_) fun hc => ?_
          · simp at hc
            have hp' := isStrEq hc.1
            subst hp'
            rw [fill_set hc.2] at hk
            obtain ⟨j, hj, rfl⟩ : ∃ j : Nat, j < c ∧ q = .int (j : Nat) := by
              cases q with
              | int j =>
                have h := hc.2
                simp only [isIndex, Bool.and_eq_true, decide_eq_true_eq] at h
                exact ⟨j.toNat, by omega, congrArg PyData.int (by omega)⟩
              | _ => cases hc.2
            exact ⟨_, rfl, .int 0, atI_nat (by rw [List.getElem?_replicate, if_pos hj]), hk⟩
          · refine same fun i' he => ?_
            cases he
            rw [eqv_str] at hc
            simpa using hc
        · simp at hl
      | dict k => exact absurd rfl (rl.nd k)
      | _ => simpa using same (fun i' he => by cases he)
    · rw [fill_same fun b' c' i' he => by
        cases he
        rw [eqv_str] at ha
        simp at ha] at hk
      exact hk
  · have e0 : fillZ (c : Int) x = x := fill_same fun b' c' i' he => absurd ⟨_, _, _, _, he⟩ h4
    rw [e0] at hk
    cases x with
    | tuple ds =>
      have : ¬ ((ds.length : Int) = 4) := fun z => h4 (by
        match ds, z with
        | [a, b, e, l], _ => exact ⟨a, b, e, l, rfl⟩
        | [], z => simp at z
        | [_], z => simp at z
        | [_, _], z => simp at z
        | [_, _, _], z => simp at z
        | _ :: _ :: _ :: _ :: _ :: _, z => simp at z)
      simpa [this] using hk
    | dict k => exact absurd rfl (rx.nd k)
    | _ => simpa using hk
end
end K96
set_option Elab.async false
set_option linter.all false
set_option maxRecDepth 100000
set_option maxHeartbeats 4000000
set_option synthInstance.maxHeartbeats 1000000
set_option synthInstance.maxSize 1000000
namespace K96
open PySem PySem.Spec PyProof.Rows L2 Evl Pd Wl
structure TTxt (K : PySem.W.Frag) (C : Addr) : Prop where
  cl : Cls K C
  nC : NoAttr K C "count"
  nR : NoAttr K C "roots"
  nG : NoAttr K C "registers"
abbrev fo (C : Addr) (cnt : Nat) (R G : Int) : LO := .ins C [("count", .int (cnt : Nat)), ("roots", .int R), ("registers", .int G)]
def D_init (C : Addr) (ds : List PyData) (h : Lh) (P : Wv) : Prop := ∃ (a : Addr) (cnt : Nat) (R G : Int), ds = [rf a, .int (cnt : Nat), .int R, .int G] ∧ h a = some (.ins C []) ∧ P .none (up h a (fo C cnt R G))
def D_block (C : Addr) (n : Nat) (ds : List PyData) (h : Lh) (P : Wv) : Prop := ∃ (a : Addr) (cnt : Nat) (R G : Int) (x : PyData) (dep : Int), ds = [rf a, x, .int dep] ∧ h a = some (fo C cnt R G) ∧ cnt ≤ 100 ∧ Rd0 x ∧ (dep + 1).toNat ≤ n ∧ P (.bool (isBlk (cnt : Nat) R G (dep + 1).toNat x)) h
def D_do (C : Addr) (ds : List PyData) (h : Lh) (P : Wv) : Prop := ∃ (a : Addr) (cnt : Nat) (R G : Int) (x : PyData), ds = [rf a, x] ∧ h a = some (fo C cnt R G) ∧ cnt ≤ 100 ∧ Rd0 x ∧ P (.bool (isDo (cnt : Nat) R G x)) h
def D_stm (C : Addr) (n : Nat) (ds : List PyData) (h : Lh) (P : Wv) : Prop := ∃ (a : Addr) (cnt : Nat) (R G : Int) (x : PyData) (m : Nat), ds = [rf a, x, .int (m : Nat)] ∧ h a = some (fo C cnt R G) ∧ cnt ≤ 100 ∧ Rd0 x ∧ m ≤ n ∧ m ≤ 20 ∧ P (.bool (isStm (cnt : Nat) R G (isTst (cnt : Nat) (m + 1)) (isBlk (cnt : Nat) R G m) x)) h
section
variable {P : Program} {w : World} {K : PySem.W.Frag} {mg : Str → Option Value} {base : Heap} {aF aW C : Addr} {es : Array DictEntry} {nF : Nat}
theorem calM_none {m qual : Str} {st : Stmt} {ps : List Str} {CX : CXT} {k : Nat} (S : SrcM K C m qual st ps) : CalM P w K mg base CX k C m ps (SpW K fun _ _ _ => False) := by
  obtain ⟨f, fd, hm, hF, hb⟩ := S.ex
  exact ⟨f, fd, hm, hb, ⟨fun _ _ _ _ ⟨_, _, _, _, _, _, _, h, _⟩ => h.elim, fun _ _ _ _ _ _ _ _ _ _ _ _ _ ⟨_, _, _, _, _, _, _, h, _⟩ => h.elim⟩⟩
theorem cal_Form (S : SrcC K mg "Form" C "Form.__init__" st_Form_init ["self", "count", "roots", "registers"]) (T : Txt K mg) (TT : TTxt K C) : CalC P w K mg base CX0 1 "Form" C ["self", "count", "roots", "registers"] (SpW K (D_init C)) := by
  have sc := sc_Form_init
  refine S.cal (k := 0) sc (SpW.len fun ds h P z => by obtain ⟨_, _, _, _, rfl, _⟩ := z; rfl) (fun f cdv A outer s H vs Q E hr h => ⟨_, (pss_cons (k_psfld (K := K) rfl (pv 0) (pv 1) rfl)
  (pss_cons (k_psfld (K := K) rfl (pv 0) (pv 2) rfl)
  (pss_one (k_psfld (K := K) rfl (pv 0) (pv 3) rfl)))), h.enter fun ds lh P hD => ?_⟩)
  obtain ⟨a, cnt, R, G, rfl, ha, hk⟩ := hD
  simp [ha, TT.cl, TT.nC, TT.nR, TT.nG]
  exact hk
theorem cal_do (S : SrcM K C "is_do" "Form.is_do" st_Form_is_do ["self", "operation"]) (T : Txt K mg) (TT : TTxt K C) (C_filled : Cal P w K mg base CX0 4 "filled" ["operation", "counters"] (SpW K D_filled)) (C_is_operation : CalK P w K mg base CX0 3 "is_operation" ["value", "roots", "registers"] 1 ["roots", "registers"] (SpW K D_is_op)) : CalM P w K mg base CX0 5 C "is_do" ["self", "operation"] (SpW K (D_do C)) := by
  have sc := sc_Form_is_do
  refine S.cal (k := 4) sc (SpW.len fun ds h P z => by obtain ⟨_, _, _, _, _, rfl, _⟩ := z; rfl) (fun f cdv A outer s H vs Q E hr h => ⟨_, (pss_cons (ps_set (i := 2) sc.nd rfl (by first | exact Or.inl rfl | exact Or.inr rfl) (pe_op (k_repA (K := K) rfl) (pe_tup (pa_cons pe_int pa_nil)) (k_fld (K := K) rfl (pv 0) rfl)))
  (pss_one (ps_ret (pe_calK C_is_operation (hr.mono (by first | decide | omega)) rfl pass0 (pa_cons (pe_cal C_filled (hr.mono (by first | decide | omega)) rfl pass0 (pa_cons (pv 1) (pa_cons (pv 2) pa_nil))) pa_nil) (pk_cons (k_fld (K := K) rfl (pv 0) rfl) (pk_cons (k_fld (K := K) rfl (pv 0) rfl) pk_nil)))))), h.enter fun ds lh P hD => ?_⟩)
  obtain ⟨a, cnt, R, G, x, rfl, ha, hc, rx, hk⟩ := hD
  simp [ha, TT.cl, TT.nC, TT.nR, TT.nG]
  refine ⟨by omega, x, cnt, rfl, rx, ?_⟩
  simp [ha, TT.cl, TT.nC, TT.nR, TT.nG, D_is_op, rd_fill rx]
  exact hk
end
end K96
set_option Elab.async false
set_option linter.all false
set_option maxRecDepth 100000
set_option maxHeartbeats 4000000
set_option synthInstance.maxHeartbeats 1000000
set_option synthInstance.maxSize 1000000
namespace K96
open PySem PySem.Spec PyProof.Rows L2 Evl Pd Wl
section
variable {P : Program} {w : World} {K : PySem.W.Frag} {mg : Str → Option Value} {base : Heap} {aF aW C : Addr} {es : Array DictEntry} {nF : Nat}
theorem Rd0.tail {a : PyData} {l : List PyData} (h : Rd0 (.tuple (a :: l))) : Rd0 (.tuple l) := by
  obtain ⟨n, hn, h⟩ := h
  cases h with
  | tup n _ hl hm => exact ⟨n + 1, hn, .tup n l (by simp at hl; omega) fun d hd => hm d (List.mem_cons_of_mem _ hd)⟩
theorem isStm_eq (cnt R G : Int) (tst blk : PyData → Bool) (wd : Str) (rest : List PyData) : isStm cnt R G tst blk (.tuple (.str wd :: rest)) = (if wd = "do" then (match rest with | [o] => isDo cnt R G o | _ => false)
      else if wd = "add" then (match rest with | [a, b] => isIndex cnt a && isNum b | _ => false)
      else if wd = "keep" then (match rest with | [a] => isIndex cnt a | _ => false)
      else if wd = "while" then (match rest with | [t, b] => tst t && blk b | _ => false)
      else if wd = "if" then (match rest with | [t, a, b] => tst t && (blk a && blk b) | _ => false)
      else decide (wd = "stop") && rest.isEmpty) := rfl
theorem isBlk_no (cnt R G : Int) (x : PyData) (h : ∀ ds, x ≠ .tuple ds) : ∀ n, isBlk cnt R G n x = false := fun n => by
  unfold isBlk
  split
  · exact absurd rfl (h _)
  · rfl
theorem stm_step {k n : Nat} (S : SrcM K C "is_statement" "Form.is_statement" st_Form_is_statement ["self", "value", "depth"]) (T : Txt K mg) (TT : TTxt K C)
    (M_is_do : CalM P w K mg base CX0 5 C "is_do" ["self", "operation"] (SpW K (D_do C))) (C_is_index : Cal P w K mg base CX0 3 "is_index" ["value", "count"] (SpW K D_is_index)) (C_is_number : Cal P w K mg base CX0 2 "is_number" ["value"] (SpW K D_is_number))
    (C_is_test : Cal P w K mg base CX0 25 "is_test" ["value", "count", "depth"] (SpW K (D_is_test 21))) (hk3 : 25 ≤ k) (M_is_block : CalM P w K mg base CX0 k C "is_block" ["self", "value", "depth"] (SpW K (D_block C n))) : CalM P w K mg base CX0 (k + 1) C "is_statement" ["self", "value", "depth"] (SpW K (D_stm C n)) := by
  have sc := sc_Form_is_statement
  refine S.cal (k := k) sc (SpW.len fun ds h P z => by obtain ⟨_, _, _, _, _, _, rfl, _⟩ := z; rfl) (fun f cdv A outer s H vs Q E hr h => ⟨_, (pss_cons (ps_if (PW.pt (pw_or (pt_not (pt_val (pe_callB (k_isi (K := K) rfl) (by rfl) T.n_isinstance (by decide +kernel) (pa_cons (pv 1) (pa_cons (pe_bltn (v := .ty "tuple") (by rfl) T.n_tuple (by decide +kernel) rfl) pa_nil))))) (pw_or (pt_cmpR (k_eqD (K := K) rfl (hr.units)) (pv 1) (pe_tup pa_nil) (nomark _)) (pw_or1 (pt_not (pt_val (pe_callB (k_isi (K := K) rfl) (by rfl) T.n_isinstance (by decide +kernel) (pa_cons (pe_ix (k_ix_tup (K := K) rfl) (pv 1) pe_int (fun _ _ => rfl)) (pa_cons (pe_bltn (v := .ty "str") (by rfl) T.n_str (by decide +kernel) rfl) pa_nil))))))))) (pss_one (ps_ret pe_bl)) pss_nil)
  (pss_cons (ps_par (i := 3) (j := 4) rfl sc.nd rfl rfl (by decide) rfl rfl (pa_cons (pe_ix (k_ix_tup (K := K) rfl) (pv 1) pe_int (fun _ _ => rfl)) (pa_cons (pe_slice (k_sl_tupA (K := K) rfl) (pv 1) (po_some pe_int) po_none) pa_nil)) (by rfl))
  (pss_cons (ps_if (pt_cmpR op_eq (pv 3) pe_str (nomark _)) (pss_one (ps_ret (pe_and (pe_cmpR op_eq (pe_callB (k_len_seq (K := K) rfl) (by rfl) T.n_len PySem.boot_len (pa_cons (pv 4) pa_nil)) pe_int (nomark _)) (pe_one (pe_calM M_is_do TT.cl (hr.mono (by first | decide | omega)) pass0 (pv 0) (pa_cons (pe_ix (k_ix_tup (K := K) rfl) (pv 4) pe_int (fun _ _ => rfl)) pa_nil)))))) pss_nil)
  (pss_cons (ps_if (pt_cmpR op_eq (pv 3) pe_str (nomark _)) (pss_one (ps_ret (pe_and (pe_cmpR op_eq (pe_callB (k_len_seq (K := K) rfl) (by rfl) T.n_len PySem.boot_len (pa_cons (pv 4) pa_nil)) pe_int (nomark _)) (pe_and (pe_cal C_is_index (hr.mono (by first | decide | omega)) rfl pass0 (pa_cons (pe_ix (k_ix_tup (K := K) rfl) (pv 4) pe_int (fun _ _ => rfl)) (pa_cons (k_fld (K := K) rfl (pv 0) rfl) pa_nil))) (pe_one (pe_cal C_is_number (hr.mono (by first | decide | omega)) rfl pass0 (pa_cons (pe_ix (k_ix_tup (K := K) rfl) (pv 4) pe_int (fun _ _ => rfl)) pa_nil))))))) pss_nil)
  (pss_cons (ps_if (pt_cmpR op_eq (pv 3) pe_str (nomark _)) (pss_one (ps_ret (pe_and (pe_cmpR op_eq (pe_callB (k_len_seq (K := K) rfl) (by rfl) T.n_len PySem.boot_len (pa_cons (pv 4) pa_nil)) pe_int (nomark _)) (pe_one (pe_cal C_is_index (hr.mono (by first | decide | omega)) rfl pass0 (pa_cons (pe_ix (k_ix_tup (K := K) rfl) (pv 4) pe_int (fun _ _ => rfl)) (pa_cons (k_fld (K := K) rfl (pv 0) rfl) pa_nil))))))) pss_nil)
  (pss_cons (ps_if (pt_cmpR op_eq (pv 3) pe_str (nomark _)) (pss_one (ps_ret (pe_and (pe_cmpR op_eq (pe_callB (k_len_seq (K := K) rfl) (by rfl) T.n_len PySem.boot_len (pa_cons (pv 4) pa_nil)) pe_int (nomark _)) (pe_and (pe_cal C_is_test (hr.mono (by first | decide | omega)) rfl pass0 (pa_cons (pe_ix (k_ix_tup (K := K) rfl) (pv 4) pe_int (fun _ _ => rfl)) (pa_cons (k_fld (K := K) rfl (pv 0) rfl) (pa_cons (pv 2) pa_nil)))) (pe_one (pe_calM M_is_block TT.cl (hr.mono (by first | decide | omega)) pass0 (pv 0) (pa_cons (pe_ix (k_ix_tup (K := K) rfl) (pv 4) pe_int (fun _ _ => rfl)) (pa_cons (pe_op op_sub (pv 2) pe_int) pa_nil)))))))) pss_nil)
  (pss_cons (ps_if (pt_cmpR op_eq (pv 3) pe_str (nomark _)) (pss_cons (ps_if (PW.pt (pw_or (pt_cmpR op_ne (pe_callB (k_len_seq (K := K) rfl) (by rfl) T.n_len PySem.boot_len (pa_cons (pv 4) pa_nil)) pe_int (nomark _)) (pw_or1 (pt_not (pt_val (pe_cal C_is_test (hr.mono (by first | decide | omega)) rfl pass0 (pa_cons (pe_ix (k_ix_tup (K := K) rfl) (pv 4) pe_int (fun _ _ => rfl)) (pa_cons (k_fld (K := K) rfl (pv 0) rfl) (pa_cons (pv 2) pa_nil))))))))) (pss_one (ps_ret pe_bl)) pss_nil)
  (pss_one (ps_ret (pe_and (pe_calM M_is_block TT.cl (hr.mono (by first | decide | omega)) pass0 (pv 0) (pa_cons (pe_ix (k_ix_tup (K := K) rfl) (pv 4) pe_int (fun _ _ => rfl)) (pa_cons (pe_op op_sub (pv 2) pe_int) pa_nil))) (pe_one (pe_calM M_is_block TT.cl (hr.mono (by first | decide | omega)) pass0 (pv 0) (pa_cons (pe_ix (k_ix_tup (K := K) rfl) (pv 4) pe_int (fun _ _ => rfl)) (pa_cons (pe_op op_sub (pv 2) pe_int) pa_nil)))))))) pss_nil)
  (pss_one (ps_ret (pe_and (pe_cmpR op_eq (pv 3) pe_str (nomark _)) (pe_one (pe_cmpR (k_eqD (K := K) rfl (hr.units)) (pv 4) (pe_tup pa_nil) (nomark _))))))))))))), h.enter fun ds lh P hD => ?_⟩)
  obtain ⟨a, cnt, R, G, x, m, rfl, ha, hc, rx, hmn, hm20, hk⟩ := hD
  have hp := rx.pure
  have hs := rx.sh
  rcases head_or x with ⟨wd, rest, rfl⟩ | hx
  · simp at hp
    have rr : ∀ y ∈ rest, Rd0 y := fun y hy => rx.tup.2 y (List.mem_cons_of_mem _ hy)
    have e1 : ((m : Int) + 1).toNat = m + 1 := by omega
    have e2 : ((m : Int) - 1 + 1).toNat = m := by omega
    rw [isStm_eq] at hk
    simp [hp, hs]
    refine wCond.p (fun h1 => ?_) fun h1 => ?_
    · rw [if_pos h1] at hk
      rcases rest with _ | ⟨y, _ | ⟨z, l⟩⟩
      · simpa using hk
      · simp [ha]
        exact ⟨a, cnt, R, G, y, rfl, ha, hc, rr y (by simp), hk⟩
      · simpa using hk
    rw [if_neg h1] at hk
    refine wCond.p (fun h2 => ?_) fun h2 => ?_
    · rw [if_pos h2] at hk
      rcases rest with _ | ⟨y, _ | ⟨z, _ | ⟨u, l⟩⟩⟩
      · simpa using hk
      · simpa using hk
      · simp [ha, TT.cl, TT.nC, D_is_index, D_is_number, rr y (by simp), rr z (by simp)] at hk ⊢
        exact hk
      · simpa using hk
    rw [if_neg h2] at hk
    refine wCond.p (fun h3 => ?_) fun h3 => ?_
    · rw [if_pos h3] at hk
      rcases rest with _ | ⟨y, _ | ⟨z, l⟩⟩
      · simpa using hk
      · simp [ha, TT.cl, TT.nC, D_is_index, rr y (by simp)] at hk ⊢
        exact hk
      · simpa using hk
    rw [if_neg h3] at hk
    refine wCond.p (fun h4 => ?_) fun h4 => ?_
    · rw [if_pos h4] at hk
      rcases rest with _ | ⟨y, _ | ⟨z, _ | ⟨u, l⟩⟩⟩
      · simpa using hk
      · simpa using hk
      · have ry := rr y (by simp)
        have rz := rr z (by simp)
        simp [ha, TT.cl, TT.nC, D_is_test, ry, e1] at hk ⊢
        refine ⟨by omega, wCond.i (fun ht => ?_) fun ht => ?_⟩
        · rw [ht, Bool.true_and] at hk
          exact ⟨a, cnt, R, G, z, _, rfl, ha, hc, rz, by omega, by rw [e2]; exact hk⟩
        · rw [ht, Bool.false_and] at hk; exact hk
      · simpa using hk
    rw [if_neg h4] at hk
    refine wCond.p (fun h5 => ?_) fun h5 => ?_
    · rw [if_pos h5] at hk
      rcases rest with _ | ⟨y, _ | ⟨z, _ | ⟨u, _ | ⟨v, l⟩⟩⟩⟩
      · simpa using hk
      · simpa using hk
      · simpa using hk
      · have ry := rr y (by simp)
        have rz := rr z (by simp)
        have ru := rr u (by simp)
        simp [ha, TT.cl, TT.nC, D_is_test, ry, e1] at hk ⊢
        refine ⟨by omega, wCond.i (fun ht => ?_) fun ht => ?_⟩
        · rw [ht, Bool.true_and] at hk
          refine ⟨a, cnt, R, G, z, _, rfl, ha, hc, rz, by omega, ?_⟩
          rw [e2]
          simp [ha]
          refine wCond.i (fun hz => ?_) fun hz => ?_
          · rw [hz, Bool.true_and] at hk
            exact ⟨a, cnt, R, G, u, _, rfl, ha, hc, ru, by omega, by rw [e2]; exact hk⟩
          · rw [hz, Bool.false_and] at hk; exact hk
        · rw [ht, Bool.false_and] at hk; exact hk
      · simpa using hk
    rw [if_neg h5] at hk
    have sr := rx.tail.sh
    simp [sr]
    exact hk
  · have e0 : isStm (cnt : Nat) R G (isTst (cnt : Nat) (m + 1)) (isBlk (cnt : Nat) R G m) x = false := by
      unfold isStm
      split
      · exact absurd rfl (hx _ _)
      · rfl
    rw [e0] at hk
    cases x with
    | tuple ds =>
      cases ds with
      | nil => simpa using hk
      | cons a l =>
        simp at hp
        cases a with
        | str s => exact absurd rfl (hx s l)
        | dict k => simp [Wl.clean] at hp
        | _ => simpa [hp, hs] using hk
    | dict k => exact absurd rfl (rx.nd k)
    | _ => simpa using hk
theorem block_step {k n : Nat} {D' : List PyData → Lh → Wv → Prop} (S : SrcM K C "is_block" "Form.is_block" st_Form_is_block ["self", "value", "depth"]) (T : Txt K mg) (TT : TTxt K C)
    (M_is_statement : CalM P w K mg base CX0 k C "is_statement" ["self", "value", "depth"] (SpW K D')) (hn : ∀ m, n = m + 1 → D' = D_stm C m) (hn21 : n ≤ 21) : CalM P w K mg base CX0 (k + 1) C "is_block" ["self", "value", "depth"] (SpW K (D_block C n)) := by
  have sc := sc_Form_is_block
  refine S.cal (k := k) sc (SpW.len fun ds h P z => by obtain ⟨_, _, _, _, _, _, rfl, _⟩ := z; rfl) (fun f cdv A outer s H vs Q E hr h => ⟨_, (pss_cons (ps_if (PW.pt (pw_or (pt_not (pt_val (pe_callB (k_isi (K := K) rfl) (by rfl) T.n_isinstance (by decide +kernel) (pa_cons (pv 1) (pa_cons (pe_bltn (v := .ty "tuple") (by rfl) T.n_tuple (by decide +kernel) rfl) pa_nil))))) (pw_or1 (pt_cmpR op_lt (pv 2) pe_int (nomark _))))) (pss_one (ps_ret pe_bl)) pss_nil)
  (pss_one (ps_ret (pe_callB (k_all (K := K) rfl rfl) (by rfl) T.n_all (by decide +kernel) (pa_cons (pe_lc (own := [("one", 3)]) rfl sc.nd (k_pi_tup (K := K) rfl (pv 1)) (blkOk_by (by first | decide +kernel | kernel_rfl)) (fun _ _ _ _ _ => (pg_name (i := 3) sc.nd rfl (by first | exact Or.inl rfl | exact Or.inr rfl))) (fun _ _ _ _ _ => pts_nil) (fun _ _ _ _ _ => (pe_calM M_is_statement TT.cl (hr.mono (by first | decide | omega)) pass0 (pv 0) (pa_cons (pv 3) (pa_cons (pv 2) pa_nil))))) pa_nil))))), h.enter fun ds lh P hD => ?_⟩)
  obtain ⟨a, cnt, R, G, x, dep, rfl, ha, hc, rx, hle, hk⟩ := hD
  cases x with
  | dict k => exact absurd rfl (rx.nd k)
  | tuple ds =>
    simp
    refine wCond.p (fun hd => ?_) fun hd => ?_
    · have e0 : (dep + 1).toNat = 0 := by omega
      rw [e0] at hk
      exact hk
    · obtain ⟨m, rfl⟩ : ∃ m : Nat, dep = (m : Int) := ⟨dep.toNat, by omega⟩
      have e1 : ((m : Int) + 1).toNat = m + 1 := by omega
      rw [e1] at hle hk
      obtain ⟨n', rfl⟩ : ∃ n', n = n' + 1 := ⟨n - 1, by omega⟩
      have := hn n' rfl
      subst this
      have hk' : P (.bool (ds.all (isStm (cnt : Nat) R G (isTst (cnt : Nat) (m + 1)) (isBlk (cnt : Nat) R G m)))) lh := hk
      have := lcL_map (keep := fun _ => True) (g := wName 3) (e := wMethW C (Str.ofString "is_statement") (D_stm C n') (wVar 0) (wCons (wVar 3) (wCons (wVar 2) wNil))) (ρ := [some (rf a), some (.tuple ds), some (.int (m : Nat)), none]) (P := fun ds h1 => ∃ x, boolL ds = some x ∧ P (PyData.bool (x.all id)) h1) (h := lh) (l := ds) (emb := id) (fun x => .bool (isStm (cnt : Nat) R G (isTst (cnt : Nat) (m + 1)) (isBlk (cnt : Nat) R G m) x)) trivial (by have := rx.tup.1; omega) (fun y hy F hF => ?_) ?_
      · simpa using this
      · simp [ha]
        exact ⟨a, cnt, R, G, y, m, rfl, ha, hc, rx.tup.2 y hy, by omega, by omega, hF⟩
      · simp only [boolL_mapF]
        simpa using hk'
  | _ =>
    rw [isBlk_no _ _ _ _ (fun ds => by rintro ⟨⟩)] at hk
    simpa using hk
theorem cal_stm_block (SS : SrcM K C "is_statement" "Form.is_statement" st_Form_is_statement ["self", "value", "depth"]) (SB : SrcM K C "is_block" "Form.is_block" st_Form_is_block ["self", "value", "depth"]) (T : Txt K mg) (TT : TTxt K C)
    (M_is_do : CalM P w K mg base CX0 5 C "is_do" ["self", "operation"] (SpW K (D_do C))) (C_is_index : Cal P w K mg base CX0 3 "is_index" ["value", "count"] (SpW K D_is_index)) (C_is_number : Cal P w K mg base CX0 2 "is_number" ["value"] (SpW K D_is_number))
    (C_is_test : Cal P w K mg base CX0 25 "is_test" ["value", "count", "depth"] (SpW K (D_is_test 21))) : ∀ n, n ≤ 21 → CalM P w K mg base CX0 (2 * n + 26) C "is_block" ["self", "value", "depth"] (SpW K (D_block C n))
  | 0, _ => block_step SB T TT (k := 25) (calM_none SS) (fun m h => by omega) (by omega)
  | n + 1, h => block_step SB T TT (k := 2 * n + 27) (stm_step SS T TT M_is_do C_is_index C_is_number C_is_test (k := 2 * n + 26) (by omega) (cal_stm_block SS SB T TT M_is_do C_is_index C_is_number C_is_test n (by omega))) (fun m h => by
      have : n = m := by omega
      rw [this]) h
def D_is_teller (ds : List PyData) (h : Lh) (P : Wv) : Prop := ∃ x R G, ds = [x, .int R, .int G] ∧ Rd0 x ∧ P (.bool (isTel R G x)) h
theorem cal_is_teller (S : SrcK K mg "is_teller" st_is_teller ["value", "roots", "registers"] 1 ["roots", "registers"]) (T : Txt K mg) (TT : TTxt K C) (C_is_count : Cal P w K mg base CX0 2 "is_count" ["value"] (SpW K D_is_count)) (C_Form : CalC P w K mg base CX0 1 "Form" C ["self", "count", "roots", "registers"] (SpW K (D_init C)))
    (M_is_block : CalM P w K mg base CX0 68 C "is_block" ["self", "value", "depth"] (SpW K (D_block C 21))) : CalK P w K mg base CX0 69 "is_teller" ["value", "roots", "registers"] 1 ["roots", "registers"] (SpW K D_is_teller) := by
  have sc := sc_is_teller
  refine S.cal (k := 68) sc (SpW.len fun ds h P z => by obtain ⟨_, _, _, rfl, _⟩ := z; rfl) (fun f cdv A outer s H vs Q E hr h => ⟨_, (pss_cons (ps_if (PW.pt (pw_or (pt_not (pt_val (pe_callB (k_isi (K := K) rfl) (by rfl) T.n_isinstance (by decide +kernel) (pa_cons (pv 0) (pa_cons (pe_bltn (v := .ty "tuple") (by rfl) T.n_tuple (by decide +kernel) rfl) pa_nil))))) (pw_or (pt_cmpR op_ne (pe_callB (k_len_seq (K := K) rfl) (by rfl) T.n_len PySem.boot_len (pa_cons (pv 0) pa_nil)) pe_int (nomark _)) (pw_or (pt_not (pt_val (pe_cal C_is_count (hr.mono (by first | decide | omega)) rfl pass0 (pa_cons (pe_ix (k_ix_tup (K := K) rfl) (pv 0) pe_int (fun _ _ => rfl)) pa_nil)))) (pw_or1 (pt_cmpR op_gt (pe_ix (k_ix_tup (K := K) rfl) (pv 0) pe_int (fun _ _ => rfl)) (pe_gl rfl T.c_MOST_COUNTERS) (nomark _))))))) (pss_one (ps_ret pe_bl)) pss_nil)
  (pss_one (ps_ret (pe_calM M_is_block TT.cl (hr.mono (by first | decide | omega)) pass0 (pe_mkC C_Form (hr.mono (by first | decide | omega)) rfl pass0 (pa_cons (pe_ix (k_ix_tup (K := K) rfl) (pv 0) pe_int (fun _ _ => rfl)) (pa_cons (pv 1) (pa_cons (pv 2) pa_nil)))) (pa_cons (pe_ix (k_ix_tup (K := K) rfl) (pv 0) pe_int (fun _ _ => rfl)) (pa_cons (pe_gl rfl T.c_MOST_DEEP) pa_nil)))))), h.enterF fun ds lh P hD => ?_⟩)
  obtain ⟨x, R, G, rfl, rx, hk⟩ := hD
  cases x with
  | dict k => exact absurd rfl (rx.nd k)
  | tuple ds =>
    rcases ds with _ | ⟨y, _ | ⟨z, _ | ⟨u, l⟩⟩⟩
    · simpa [isTel] using hk
    · simpa [isTel] using hk
    · have ry := rx.tup.2 y (by simp)
      have rz := rx.tup.2 z (by simp)
      cases y with
      | int c =>
        simp [D_is_count, ry, isCount]
        refine wCond.i (fun hb => ?_) fun hb => ?_
        · have e0 : isTel R G (.tuple [.int c, z]) = false := by
            show (decide (0 ≤ c) && decide (c ≤ 100) && isBlk c R G 21 z) = false
            simp at hb
            by_cases h1 : 0 ≤ c
            · have : ¬ c ≤ 100 := by omega
              simp [this]
            · simp [h1]
          rw [e0] at hk
          exact hk
        · simp at hb
          obtain ⟨n, rfl⟩ : ∃ n : Nat, c = (n : Int) := ⟨c.toNat, by omega⟩
          intro a hA
          refine ⟨a, n, R, G, rfl, up_same, rfl, ?_⟩
          simp
          refine ⟨a, n, R, G, z, 20, rfl, up_same, by omega, rz, by decide, fun b o e => ?_, ?_⟩
          · rw [up_ne (fun z => by rw [z, hA] at e; cases e)]; exact e
          · have e1 : isTel R G (.tuple [.int (n : Nat), z]) = isBlk (n : Nat) R G ((20 : Int) + 1).toNat z := by
              show (decide (0 ≤ (n : Int)) && decide ((n : Int) ≤ 100) && isBlk (n : Nat) R G 21 z) = _
              rw [decide_eq_true (by omega : (0 : Int) ≤ n), decide_eq_true (by omega : (n : Int) ≤ 100)]; rfl
            rw [← e1]; exact hk
      | _ => simpa [isTel, D_is_count, ry, isCount] using hk
    · simpa [isTel] using hk
  | _ => simpa [isTel] using hk
end
end K96
set_option Elab.async false
set_option linter.all false
set_option maxRecDepth 100000
set_option maxHeartbeats 4000000
set_option synthInstance.maxHeartbeats 1000000
set_option synthInstance.maxSize 1000000
namespace K96
open PySem PySem.Spec PyProof.Rows L2 Evl Pd Wl
def D_check (CB : Addr) (ds : List PyData) (h : Lh) (P : Wv) (X : XB) : Prop := ∃ x R G, ds = [x, .int R, .int G] ∧ Rd0 x ∧ (isTel R G x = true → P .none h) ∧ (isTel R G x = false → X CB [] h)
def D_checked (ds : List PyData) (h : Lh) (P : Wv) : Prop := ∃ x a b R G e, ds = [x, .tuple [.int a, .int b, .int R, .int G, .int e]] ∧ Rd0 x ∧ P (.bool (isTel R G x)) h
section
variable {P : Program} {w : World} {K : PySem.W.Frag} {mg : Str → Option Value} {base : Heap} {CB : Addr}
theorem cal_check_teller (S : SrcK K mg "check_teller" st_check_teller ["teller", "roots", "registers"] 1 ["roots", "registers"]) (T : Txt K mg) (XX_BadTeller : XCls K mg "BadTeller" CB) (C_is_teller : CalK P w K mg base CX0 69 "is_teller" ["value", "roots", "registers"] 1 ["roots", "registers"] (SpW K D_is_teller)) : CalK P w K mg base (L2.CX P w) 70 "check_teller" ["teller", "roots", "registers"] 1 ["roots", "registers"] (SpX K (D_check CB)) := by
  have sc := sc_check_teller
  refine S.calX (k := 69) sc (SpX.len fun ds h P X z => by obtain ⟨_, _, _, rfl, _⟩ := z; rfl) (fun f cdv A outer s H vs Q E hr h => ⟨_, (pss_one (ps_if (pt_not (pt_val (pe_calK C_is_teller (hr.mono (by first | decide | omega)) rfl pass0 (pa_cons (pv 0) pa_nil) (pk_cons (pv 1) (pk_cons (pv 2) pk_nil))))) (pss_one (k_raise rfl (takes_of rfl rfl rfl rfl) (k_mkx XX_BadTeller rfl))) pss_nil)), h.enter fun ds lh P X hD => ?_⟩)
  obtain ⟨x, R, G, rfl, rx, h1, h2⟩ := hD
  simp [D_is_teller, rx]
  exact ⟨h1, h2⟩
theorem cal__law_checked (S : Src K mg "_law_checked" st__law_checked ["value", "shape"]) (T : Txt K mg) (XX_BadTeller : XCls K mg "BadTeller" CB) (C_check_teller : CalK P w K mg base (L2.CX P w) 70 "check_teller" ["teller", "roots", "registers"] 1 ["roots", "registers"] (SpX K (D_check CB))) : Cal P w K mg base CX0 71 "_law_checked" ["value", "shape"] (SpW K D_checked) := by
  have sc := sc__law_checked
  refine S.cal (k := 70) sc (SpW.len fun ds h P z => by obtain ⟨_, _, _, _, _, _, rfl, _⟩ := z; rfl) (fun f cdv A outer s H vs Q E hr h => ⟨_, (pss_cons (k_tryO (K := K) (Wout := fun _ _ _ _ => False) rfl rfl rfl ⟨rfl, by decide, .inl XX_BadTeller.g⟩ takes0 (fun W pn xe tk po => (pss_one (ps_set (i := 2) sc.nd rfl (by first | exact Or.inl rfl | exact Or.inr rfl) (pe_calKS C_check_teller (hr.mono (by first | decide | omega)) rfl tk (pa_cons (pv 0) pa_nil) (pk_cons (pe_ix (k_ix_tup (K := K) rfl) (pv 1) pe_int (fun _ _ => rfl)) (pk_cons (pe_ix (k_ix_tup (K := K) rfl) (pv 1) pe_int (fun _ _ => rfl)) pk_nil)))))) (fun a oe cls d pn hz hf => (pss_one (ps_ret pe_bl))))
  (pss_one (ps_ret (pe_cmpR op_isN (pv 2) pe_non (nomark _))))), h.enter (R := rs_seq (rs_try fun W X => inferInstance)) fun ds lh P hD => ?_⟩)
  obtain ⟨x, a, b, R, G, e, rfl, rx, hk⟩ := hD
  simp
  refine ⟨x, R, G, rfl, rx, fun ht => ?_, fun ht => ⟨true, XX_BadTeller.exm, wCond.t ?_⟩⟩
  · rw [ht] at hk; exact hk
  · rw [ht] at hk; simpa using hk
end
end K96
set_option Elab.async false
set_option linter.all false
set_option maxRecDepth 100000
set_option maxHeartbeats 4000000
set_option synthInstance.maxHeartbeats 1000000
set_option synthInstance.maxSize 1000000
namespace K96
open PySem PySem.Spec PyProof.Rows L2 Evl Pd Wl
def lwInt (a b : Int) : PyData → Bool
  | .int i => decide (a ≤ i) && decide (i ≤ b)
  | _ => false
def D_law_int (ds : List PyData) (h : Lh) (P : Wv) : Prop := ∃ x a b, ds = [x, .int a, .int b] ∧ Rd0 x ∧ P (.bool (lwInt a b x)) h
def D_law_op (ds : List PyData) (h : Lh) (P : Wv) : Prop := ∃ x cnt R G, ds = [x, .int cnt, .int R, .int G] ∧ Rd0 x ∧ P (.bool (isDo cnt R G x)) h
def D_law_test (ds : List PyData) (h : Lh) (P : Wv) : Prop := ∃ x cnt dep, ds = [x, .int cnt, .int dep] ∧ Rd0 x ∧ 0 ≤ dep ∧ dep ≤ 50 ∧ P (.bool (isTst cnt (dep + 1).toNat x)) h
abbrev dForms : List (Key × PyData) := [(.inr "put", .str "rs"), (.inr "get", .str "rk"), (.inr "set", .str "rkn"), (.inr "load", .str "rrk"), (.inr "store", .str "rkr"), (.inr "root", .str "ir"), (.inr "take", .str "ri")]
abbrev dMore : List (Key × PyData) := [(.inr "copy", .str "rr"), (.inr "drop", .str "r"), (.inr "same", .str "rr"), (.inr "size", .str "r")]
abbrev dLeast : List (Key × PyData) := [(.inr "r", .int 0), (.inr "i", .int 0), (.inr "k", .int 0), (.inr "s", .int 1), (.inr "n", .int (-999999999999999999))]
abbrev dMost (R G : Int) : List (Key × PyData) := [(.inr "r", .int (G - 1)), (.inr "i", .int (R - 1)), (.inr "k", .int 1000000000), (.inr "s", .int 1000000000), (.inr "n", .int 999999999999999999)]
theorem formS_cons {a f : Str} {l : List (Str × Str)} {w : Str} : (((a, f) :: l).find? fun p => decide (p.1 = w)).map (·.2) = if a = w then some f else (l.find? fun p => decide (p.1 = w)).map (·.2) := by
  rw [List.find?_cons]
  by_cases h : a = w
  · simp [h]
  · simp [h]
theorem val_forms (wd : Str) : (valD dForms (.inr wd)).getD ((valD dMore (.inr wd)).getD (.str "")) = .str ((formS wd).getD "") := by
  unfold formS formL
  simp only [formS_cons, valD_cons, valD_nil, Sum.inr.injEq]
  by_cases h1 : ("put" : Str) = wd
  · simp [h1]
  by_cases h2 : ("get" : Str) = wd
  · simp [h1, h2]
  by_cases h3 : ("set" : Str) = wd
  · simp [h1, h2, h3]
  by_cases h4 : ("load" : Str) = wd
  · simp [h1, h2, h3, h4]
  by_cases h5 : ("store" : Str) = wd
  · simp [h1, h2, h3, h4, h5]
  by_cases h6 : ("root" : Str) = wd
  · simp [h1, h2, h3, h4, h5, h6]
  by_cases h7 : ("take" : Str) = wd
  · simp [h1, h2, h3, h4, h5, h6, h7]
  by_cases h8 : ("copy" : Str) = wd
  · simp [h1, h2, h3, h4, h5, h6, h7, h8]
  by_cases h9 : ("drop" : Str) = wd
  · simp [h1, h2, h3, h4, h5, h6, h7, h8, h9]
  by_cases h10 : ("same" : Str) = wd
  · simp [h1, h2, h3, h4, h5, h6, h7, h8, h9, h10]
  by_cases h11 : ("size" : Str) = wd
  · simp [h1, h2, h3, h4, h5, h6, h7, h8, h9, h10, h11]
  simp [h1, h2, h3, h4, h5, h6, h7, h8, h9, h10, h11]
def isTupB : PyData → Bool
  | .tuple _ => true
  | _ => false
theorem isDo_no {cnt R G : Int} {x : PyData} (hx : ∀ w ds, x ≠ .tuple (.str w :: ds)) : isDo cnt R G x = false := by
  unfold isDo
  rw [fill_same fun b c i e => absurd e (hx _ _)]
  unfold isOp
  split
  · exact absurd rfl (hx _ _)
  · rfl
/-- what the law asks of a part -/
def lwPart (cnt R G : Int) (c : Nat) (x : PyData) : Bool :=
  if (⟨#[c]⟩ : Str) = "n" ∧ isTupB x = true then (match x with | .tuple [.str u, i] => decide (u = "counter") && isIndex cnt i | _ => false)
  else partOk R G ⟨#[c]⟩ x
theorem lwInt_index (cnt : Int) (x : PyData) : lwInt 0 (cnt - 1) x = isIndex cnt x := by
  cases x with
  | int i =>
    simp only [lwInt, isIndex]
    congr 1
    exact decide_eq_decide.mpr (by omega)
  | _ => rfl
theorem noN : ∀ p ∈ formL, p.1 ≠ "set" → ∀ c ∈ p.2.cps.toList, (⟨#[c]⟩ : Str) ≠ "n" := by decide +kernel
theorem lw_all (cnt R G : Int) (wd f : Str) (ps : List PyData) (hf : formS wd = some f) : (decide (ps.length = f.cps.size) && (f.cps.toList.zip ps).all fun p => lwPart cnt R G p.1 p.2) = isDo cnt R G (.tuple (.str wd :: ps)) := by
  have op : ∀ qs, isOp R G (.tuple (.str wd :: qs)) = (decide (qs.length = f.cps.size) && (f.cps.toList.zip qs).all (kpart R G)) := fun qs => by
    show (match formS wd with | none => false | some f => _) = _
    rw [hf]
  by_cases hset : wd = "set"
  · subst hset
    have hf' : f = "rkn" := by
      have : formS "set" = some "rkn" := by decide +kernel
      rw [this] at hf
      exact (Option.some.inj hf).symm
    subst hf'
    have sz : ("rkn" : Str).cps.size = 3 := by decide +kernel
    have tl : ("rkn" : Str).cps.toList = [114, 107, 110] := by decide +kernel
    have nr : (⟨#[114]⟩ : Str) ≠ "n" := by decide +kernel
    have nk : (⟨#[107]⟩ : Str) ≠ "n" := by decide +kernel
    have nn : (⟨#[110]⟩ : Str) = "n" := by decide +kernel
    have lr : ∀ x, lwPart cnt R G 114 x = partOk R G ⟨#[114]⟩ x := fun x => by unfold lwPart; rw [if_neg fun z => nr z.1]
    have lk : ∀ x, lwPart cnt R G 107 x = partOk R G ⟨#[107]⟩ x := fun x => by unfold lwPart; rw [if_neg fun z => nk z.1]
    rcases ps with _ | ⟨a, _ | ⟨b, _ | ⟨l, _ | ⟨u, r⟩⟩⟩⟩
    · simp only [sz]; rfl
    · unfold isDo; rw [fill_same (fun b c i e => (by cases e)), op]; simp [sz]
    · unfold isDo; rw [fill_same (fun b c i e => (by cases e)), op]; simp [sz]
    · by_cases hc : ∃ i, l = .tuple [.str "counter", i] ∧ isIndex cnt i = true
      · obtain ⟨i, rfl, hi⟩ := hc
        unfold isDo
        rw [fill_set hi, op]
        simp only [tl, sz, List.length_cons, List.length_nil, List.zip_cons_cons, List.zip_nil_right, List.all_cons, List.all_nil, lr, lk, kpart]
        have e1 : lwPart cnt R G 110 (.tuple [.str "counter", i]) = true := by
          unfold lwPart
          rw [if_pos ⟨nn, rfl⟩]
          simp [hi]
        have e2 : partOk R G ⟨#[110]⟩ (.int 0) = true := by
          rw [nn]; unfold partOk; simp [absI]
        rw [e1, e2]
      · unfold isDo
        rw [fill_same (fun b' c' i e => (by
          cases e
          cases h : isIndex cnt i with
          | false => rfl
          | true => exact absurd ⟨i, rfl, h⟩ hc)), op]
        simp only [tl, sz, List.length_cons, List.length_nil, List.zip_cons_cons, List.zip_nil_right, List.all_cons, List.all_nil, lr, lk, kpart]
        have e1 : lwPart cnt R G 110 l = partOk R G ⟨#[110]⟩ l := by
          unfold lwPart
          cases l with
          | tuple ts =>
            rw [if_pos ⟨nn, rfl⟩]
            show _ = false
            split
            · rename_i u i e
              cases e
              by_cases hu : u = "counter"
              · subst hu
                cases h : isIndex cnt i with
                | false => simp
                | true => exact absurd ⟨i, rfl, h⟩ hc
              · simp [hu]
            · rfl
          | _ => rw [if_neg fun z => by cases z.2]
        rw [e1]
    · unfold isDo; rw [fill_same (fun b c i e => (by cases e)), op]; simp [sz]
  · unfold isDo
    rw [fill_same (fun b c i e => (by cases e; exact absurd rfl hset)), op]
    congr 1
    have key : ∀ p ∈ f.cps.toList.zip ps, lwPart cnt R G p.1 p.2 = kpart R G p := fun p hp => by
      have : (⟨#[p.1]⟩ : Str) ≠ "n" := noN (wd, f) (formS_mem hf) hset p.1 (List.of_mem_zip hp).1
      unfold lwPart kpart
      rw [if_neg fun z => this z.1]
    rw [Bool.eq_iff_iff, List.all_eq_true, List.all_eq_true]
    exact ⟨fun h p hp => by rw [← key p hp]; exact h p hp, fun h p hp => by rw [key p hp]; exact h p hp⟩
theorem letter_ok (R G : Int) (kd : Str) (hk : kd ∈ (["r", "i", "k", "s", "n"] : List Str)) : ∃ a b, valD dLeast (.inr kd) = some (.int a) ∧ valD (dMost R G) (.inr kd) = some (.int b) ∧ ∀ y, lwInt a b y = partOk R G kd y := by
  simp only [List.mem_cons, List.not_mem_nil, or_false] at hk
  rcases hk with rfl | rfl | rfl | rfl | rfl
  · refine ⟨_, _, by simp; rfl, by simp; rfl, fun y => ?_⟩
    cases y <;> simp [lwInt, partOk]
    congr 1
    exact decide_eq_decide.mpr (by omega)
  · refine ⟨_, _, by simp; rfl, by simp; rfl, fun y => ?_⟩
    cases y <;> simp [lwInt, partOk]
    congr 1
    exact decide_eq_decide.mpr (by omega)
  · refine ⟨_, _, by simp; rfl, by simp; rfl, fun y => ?_⟩
    cases y <;> simp [lwInt, partOk]
  · refine ⟨_, _, by simp; rfl, by simp; rfl, fun y => ?_⟩
    cases y <;> simp [lwInt, partOk]
  · refine ⟨_, _, by simp; rfl, by simp; rfl, fun y => ?_⟩
    cases y <;> simp [lwInt, partOk, absI]
    rename_i i
    rw [← Bool.decide_and]
    refine decide_eq_decide.mpr ?_
    split <;> omega
theorem letters : ∀ p ∈ formL, p.2 ≠ "" ∧ ∀ c ∈ p.2.cps.toList, (⟨#[c]⟩ : Str) ∈ (["r", "i", "k", "s", "n"] : List Str) := by decide +kernel
theorem isDo_none {cnt R G : Int} {wd : Str} {ps : List PyData} (hf : formS wd = none) : isDo cnt R G (.tuple (.str wd :: ps)) = false := by
  have hs : wd ≠ "set" := by
    rintro rfl
    have : formS "set" = some "rkn" := by decide +kernel
    rw [this] at hf; cases hf
  unfold isDo
  rw [fill_same fun b c i e => by cases e; exact absurd rfl hs]
  show (match formS wd with | none => false | some f => _) = false
  rw [hf]
theorem up_none {h : Lh} {a b : Addr} {o : LO} (e : up h a o b = none) : b ≠ a ∧ h b = none := by
  by_cases c : b = a
  · subst c; rw [up_same] at e; cases e
  · rw [up_ne c] at e; exact ⟨c, e⟩
section
variable {P : Program} {w : World} {K : PySem.W.Frag} {mg : Str → Option Value} {base : Heap}
theorem cal__law_is_integer (S : Src K mg "_law_is_integer" st__law_is_integer ["value", "least", "most"]) (T : Txt K mg) : Cal P w K mg base CX0 1 "_law_is_integer" ["value", "least", "most"] (SpW K D_law_int) := by
  have sc := sc__law_is_integer
  refine S.cal (k := 0) sc (SpW.len fun ds h P z => by obtain ⟨_, _, _, rfl, _⟩ := z; rfl) (fun f cdv A outer s H vs Q E hr h => ⟨_, (pss_one (ps_ret (pe_and (pe_callB (k_isi (K := K) rfl) (by rfl) T.n_isinstance (by decide +kernel) (pa_cons (pv 0) (pa_cons (pe_bltn (v := .ty "int") (by rfl) T.n_int (by decide +kernel) rfl) pa_nil))) (pe_and (pe_not (pe_callB (k_isi (K := K) rfl) (by rfl) T.n_isinstance (by decide +kernel) (pa_cons (pv 0) (pa_cons (pe_bltn (v := .ty "bool") (by rfl) T.n_bool (by decide +kernel) rfl) pa_nil)))) (pe_and (pe_cmpR op_le (pv 1) (pv 0) (nomark _)) (pe_one (pe_cmpR op_le (pv 0) (pv 2) (nomark _)))))))), h.enter fun ds lh P hD => ?_⟩)
  obtain ⟨x, a, b, rfl, rx, hk⟩ := hD
  cases x with
  | dict k => exact absurd rfl (rx.nd k)
  | _ => simpa [lwInt] using hk
theorem cal__law_is_operation (S : Src K mg "_law_is_operation" st__law_is_operation ["value", "count", "roots", "registers"]) (T : Txt K mg) (C__law_is_integer : Cal P w K mg base CX0 1 "_law_is_integer" ["value", "least", "most"] (SpW K D_law_int)) : Cal P w K mg base CX0 2 "_law_is_operation" ["value", "count", "roots", "registers"] (SpW K D_law_op) := by
  have sc := sc__law_is_operation
  refine S.cal (k := 1) sc (SpW.len fun ds h P z => by obtain ⟨_, _, _, _, rfl, _⟩ := z; rfl) (fun f cdv A outer s H vs Q E hr h => ⟨_, (pss_cons (ps_set (i := 4) sc.nd rfl (by first | exact Or.inl rfl | exact Or.inr rfl) (pe_disp (pps_cons pe_str pe_str (pps_cons pe_str pe_str (pps_cons pe_str pe_str (pps_cons pe_str pe_str (pps_cons pe_str pe_str (pps_cons pe_str pe_str (pps_cons pe_str pe_str pps_nil))))))) rfl rfl (by intro h; cases h) (by decide)))
  (pss_cons (ps_set (i := 5) sc.nd rfl (by first | exact Or.inl rfl | exact Or.inr rfl) (pe_disp (pps_cons pe_str pe_str (pps_cons pe_str pe_str (pps_cons pe_str pe_str (pps_cons pe_str pe_str pps_nil)))) rfl rfl (by intro h; cases h) (by decide)))
  (pss_cons (ps_set (i := 6) sc.nd rfl (by first | exact Or.inl rfl | exact Or.inr rfl) (pe_disp (pps_cons pe_str pe_int (pps_cons pe_str pe_int (pps_cons pe_str pe_int (pps_cons pe_str pe_int (pps_cons pe_str (pe_op op_sub pe_int (pe_op op_pow pe_int pe_int)) pps_nil))))) rfl rfl (by intro h; cases h) (by decide)))
  (pss_cons (ps_set (i := 7) sc.nd rfl (by first | exact Or.inl rfl | exact Or.inr rfl) (pe_disp (pps_cons pe_str (pe_op op_sub (pv 3) pe_int) (pps_cons pe_str (pe_op op_sub (pv 2) pe_int) (pps_cons pe_str (pe_op op_pow pe_int pe_int) (pps_cons pe_str (pe_op op_pow pe_int pe_int) (pps_cons pe_str (pe_op op_sub (pe_op op_pow pe_int pe_int) pe_int) pps_nil))))) rfl rfl (by intro h; cases h) (by decide)))
  (pss_cons (ps_if (PW.pt (pw_or (pt_not (pt_val (pe_callB (k_isi (K := K) rfl) (by rfl) T.n_isinstance (by decide +kernel) (pa_cons (pv 0) (pa_cons (pe_bltn (v := .ty "tuple") (by rfl) T.n_tuple (by decide +kernel) rfl) pa_nil))))) (pw_or (pt_cmpR op_eq (pe_callB (k_len_seq (K := K) rfl) (by rfl) T.n_len PySem.boot_len (pa_cons (pv 0) pa_nil)) pe_int (nomark _)) (pw_or1 (pt_not (pt_val (pe_callB (k_isi (K := K) rfl) (by rfl) T.n_isinstance (by decide +kernel) (pa_cons (pe_ix (k_ix_tup (K := K) rfl) (pv 0) pe_int (fun _ _ => rfl)) (pa_cons (pe_bltn (v := .ty "str") (by rfl) T.n_str (by decide +kernel) rfl) pa_nil))))))))) (pss_one (ps_ret pe_bl)) pss_nil)
  (pss_cons (ps_set (i := 8) sc.nd rfl (by first | exact Or.inl rfl | exact Or.inr rfl) (pe_dget2 (hu_of hr) (pv 4) (pe_ix (k_ix_tup (K := K) rfl) (pv 0) pe_int (fun _ _ => rfl)) (pe_dget2 (hu_of hr) (pv 5) (pe_ix (k_ix_tup (K := K) rfl) (pv 0) pe_int (fun _ _ => rfl)) pe_str ⟨rfl, rfl, rfl, rfl⟩) ⟨rfl, rfl, rfl, rfl⟩))
  (pss_cons (ps_if (PW.pt (pw_or (pt_cmpR op_eq (pv 8) pe_str (nomark _)) (pw_or1 (pt_cmpR op_ne (pe_callB (k_len_seq (K := K) rfl) (by rfl) T.n_len PySem.boot_len (pa_cons (pv 0) pa_nil)) (pe_op op_add (pe_callB call_len_str (by rfl) T.n_len PySem.boot_len (pa_cons (pv 8) pa_nil)) pe_int) (nomark _))))) (pss_one (ps_ret pe_bl)) pss_nil)
  (pss_cons (ps_for PassesOwn.never rfl (pi_range1 (by rfl) T.n_range (pa_cons (pe_callB call_len_str (by rfl) T.n_len PySem.boot_len (pa_cons (pv 8) pa_nil)) pa_nil)) (pg_name (i := 9) sc.nd rfl (by first | exact Or.inl rfl | exact Or.inr rfl)) (pss_cons (ps_set (i := 10) sc.nd rfl (by first | exact Or.inl rfl | exact Or.inr rfl) (pe_ix (k_ix_tup (K := K) rfl) (pv 0) (pe_op op_add (pv 9) pe_int) (fun _ _ => rfl)))
  (pss_one (ps_if (PW.pt (pw_and (pt_cmpR op_eq (pe_ix ix_str (pv 8) (pv 9) (fun _ _ => rfl)) pe_str (nomark _)) (pw_and1 (pt_val (pe_callB (k_isi (K := K) rfl) (by rfl) T.n_isinstance (by decide +kernel) (pa_cons (pv 10) (pa_cons (pe_bltn (v := .ty "tuple") (by rfl) T.n_tuple (by decide +kernel) rfl) pa_nil))))))) (pss_one (ps_if (PW.pt (pw_or (pt_cmpR op_ne (pe_callB (k_len_seq (K := K) rfl) (by rfl) T.n_len PySem.boot_len (pa_cons (pv 10) pa_nil)) pe_int (nomark _)) (pw_or (pt_not (pt_val (pe_callB (k_isi (K := K) rfl) (by rfl) T.n_isinstance (by decide +kernel) (pa_cons (pe_ix (k_ix_tup (K := K) rfl) (pv 10) pe_int (fun _ _ => rfl)) (pa_cons (pe_bltn (v := .ty "str") (by rfl) T.n_str (by decide +kernel) rfl) pa_nil))))) (pw_or (pt_cmpR op_ne (pe_ix (k_ix_tup (K := K) rfl) (pv 10) pe_int (fun _ _ => rfl)) pe_str (nomark _)) (pw_or1 (pt_not (pt_val (pe_cal C__law_is_integer (hr.mono (by first | decide | omega)) rfl pass0 (pa_cons (pe_ix (k_ix_tup (K := K) rfl) (pv 10) pe_int (fun _ _ => rfl)) (pa_cons pe_int (pa_cons (pe_op op_sub (pv 1) pe_int) pa_nil))))))))))) (pss_one (ps_ret pe_bl)) pss_nil)) (pss_one (ps_if (pt_not (pt_val (pe_cal C__law_is_integer (hr.mono (by first | decide | omega)) rfl pass0 (pa_cons (pv 10) (pa_cons (pe_dget (hu_of hr) (pv 6) (pe_ix ix_str (pv 8) (pv 9) (fun _ _ => rfl)) (fun _ _ => rfl)) (pa_cons (pe_dget (hu_of hr) (pv 7) (pe_ix ix_str (pv 8) (pv 9) (fun _ _ => rfl)) (fun _ _ => rfl)) pa_nil)))))) (pss_one (ps_ret pe_bl)) pss_nil))))))
  (pss_one (ps_ret pe_bl)))))))))), h.enterF fun ds lh P hD => ?_⟩)
  obtain ⟨x, cnt, R, G, rfl, rx, hk⟩ := hD
  have hp := rx.pure
  have hs := rx.sh
  simp
  intro p1 n1
  generalize e1 : up lh p1 (.dK dForms) = h1
  have d1 : h1 p1 = some (.dK dForms) := by rw [← e1, up_same]
  have s1 : ∀ a o, lh a = some o → h1 a = some o := fun a o e => by rw [← e1, up_ne (fun z => by rw [z, n1] at e; cases e)]; exact e
  clear e1
  intro p2 n2
  generalize e2 : up h1 p2 (.dK dMore) = h2
  have s2 : ∀ a o, h1 a = some o → h2 a = some o := fun a o e => by rw [← e2, up_ne (fun z => by rw [z, n2] at e; cases e)]; exact e
  have d2 : h2 p2 = some (.dK dMore) := by rw [← e2, up_same]
  clear e2
  intro p3 n3
  generalize e3 : up h2 p3 (.dK dLeast) = h3
  have s3 : ∀ a o, h2 a = some o → h3 a = some o := fun a o e => by rw [← e3, up_ne (fun z => by rw [z, n3] at e; cases e)]; exact e
  have d3 : h3 p3 = some (.dK dLeast) := by rw [← e3, up_same]
  clear e3
  intro p4 n4
  generalize e4 : up h3 p4 (.dK (dMost R G)) = h4
  have s4 : ∀ a o, h3 a = some o → h4 a = some o := fun a o e => by rw [← e4, up_ne (fun z => by rw [z, n4] at e; cases e)]; exact e
  have d4 : h4 p4 = some (.dK (dMost R G)) := by rw [← e4, up_same]
  clear e4
  have sub : ∀ a o, lh a = some o → h4 a = some o := fun a o e => s4 _ _ (s3 _ _ (s2 _ _ (s1 _ _ e)))
  have d1 := s4 _ _ (s3 _ _ (s2 _ _ d1))
  have d2 := s4 _ _ (s3 _ _ d2)
  have d3 := s4 _ _ d3
  obtain ⟨F1, hF1⟩ : ∃ F, F = dForms := ⟨_, rfl⟩
  obtain ⟨F2, hF2⟩ : ∃ F, F = dMore := ⟨_, rfl⟩
  obtain ⟨F3, hF3⟩ : ∃ F, F = dLeast := ⟨_, rfl⟩
  obtain ⟨F4, hF4⟩ : ∃ F, F = dMost R G := ⟨_, rfl⟩
  have vf := val_forms
  rw [← hF1] at d1 vf
  rw [← hF2] at d2 vf
  rw [← hF3] at d3
  rw [← hF4] at d4
  have fin : ∀ b, b = isDo cnt R G x → (∀ a o, lh a = some o → h4 a = some o) ∧ P (.bool b) lh := fun b e => ⟨sub, by rw [e]; exact hk⟩
  rcases head_or x with ⟨wd, ps, rfl⟩ | hx
  · simp at hp
    simp [hs, hp, d1, d2, vf]
    cases hf : formS wd with
    | none =>
      simp
      exact fin _ (isDo_none hf).symm
    | some f =>
      have fok : f.cps.all (· < 128) = true ∧ f.cps.size ≤ 3 ∧ f.length ≤ 3 := forms_ok (wd, f) (formS_mem hf)
      obtain ⟨fne, flet⟩ := letters (wd, f) (formS_mem hf)
      have hall := lw_all cnt R G wd f ps hf
      have hfl : f.length = f.cps.size := rfl
      simp [fne]
      refine ⟨by omega, wCond.p (fun hl => ?_) fun hl => ?_⟩
      · refine ⟨by omega, by omega, ?_⟩
        have hl' : ps.length = f.cps.size := hl
        rw [decide_eq_true hl', Bool.true_and] at hall
        have hz : (f.cps.toList.zip ps).length = ps.length := by simp [hl']
        refine forL_run (fun ds ρ h => ∃ i, ds = (rgD 0 (ps.length : Nat)).drop i ∧ h = h4 ∧ (∃ o9 o10, ρ = [some (PyData.tuple (PyData.str wd :: ps)), some (PyData.int cnt), some (PyData.int R), some (PyData.int G), some (rf p1), some (rf p2), some (rf p3), some (rf p4), some (PyData.str f), o9, o10]) ∧ ∀ j, j < i → ∀ p, (f.cps.toList.zip ps)[j]? = some p → lwPart cnt R G p.1 p.2 = true) ?_ ?_ ⟨0, by rw [hl]; rfl, rfl, ⟨_, _, rfl⟩, fun j hj => by omega⟩
        · rintro d ds ρ h ⟨i, e, rfl, ⟨o9, o10, rfl⟩, hok⟩
          refine ⟨trivial, fun F hF => ?_⟩
          have hi : i < ps.length := by
            have := congrArg List.length e
            simp [rgD_len] at this
            omega
          have hdr : (rgD 0 (ps.length : Nat)).drop i = .int (i : Nat) :: (rgD 0 (ps.length : Nat)).drop (i + 1) := by
            rw [List.drop_eq_getElem_cons (by rw [rgD_len]; omega)]
            congr 1
            simp [rgD]
          rw [hdr] at e
          cases e
          obtain ⟨yv, hy⟩ : ∃ yv, ps[i]? = some yv := ⟨ps[i], by simp [hi]⟩
          obtain ⟨c, hc⟩ : ∃ c, f.cps.toList[i]? = some c := ⟨f.cps[i]'(by omega), by simp [hl' ▸ hi]⟩
          have hzi : (f.cps.toList.zip ps)[i]? = some (c, yv) := Pd.zip_get hc hy
          have ry : Rd0 yv := rx.tup.2 _ (List.mem_cons_of_mem _ (List.mem_of_getElem? hy))
          have ax : atI (PyData.str wd :: ps) ((i : Int) + 1) = some yv := atI_nat (j := i + 1) (by simpa using hy)
          have ac : atI f.cps.toList (i : Int) = some c := atI_nat (j := i) hc
          obtain ⟨a, b, la, lb, lok⟩ := letter_ok R G ⟨#[c]⟩ (flet c (List.mem_of_getElem? hc))
          rw [← hF3] at la
          rw [← hF4] at lb
          have go : lwPart cnt R G c yv = true → ∀ o10, F [some (PyData.tuple (PyData.str wd :: ps)), some (PyData.int cnt), some (PyData.int R), some (PyData.int G), some (rf p1), some (rf p2), some (rf p3), some (rf p4), some (PyData.str f), some (.int (i : Nat)), o10] h := fun hz o10 => hF _ _ ⟨i + 1, rfl, rfl, ⟨_, _, rfl⟩, fun j hj p hp => by
            by_cases e : j = i
            · subst e; rw [hzi] at hp; cases hp; exact hz
            · exact hok j (by omega) p hp⟩
          have stop : lwPart cnt R G c yv = false → (∀ a o, lh a = some o → h a = some o) ∧ P (.bool false) lh := fun hz => fin false (by
            rw [← hall]
            symm
            rw [List.all_eq_false]
            exact ⟨(c, yv), List.mem_of_getElem? hzi, by simp [hz]⟩)
          have flen : f.length ≤ 100000 := by omega
          simp [ax, ac, flen]
          cases yv with
          | dict k => exact absurd rfl (ry.nd k)
          | tuple ts =>
            simp [d3, d4, la, lb, D_law_int, ry, lok]
            refine wCond.p (fun hn => ?_) fun hn => ?_
            · have e1 : lwPart cnt R G c (.tuple ts) = (match (PyData.tuple ts) with | .tuple [.str u, i] => decide (u = "counter") && isIndex cnt i | _ => false) := by
                unfold lwPart
                rw [if_pos ⟨hn, rfl⟩]
              rcases ts with _ | ⟨u, _ | ⟨v, _ | ⟨z, l⟩⟩⟩
              · simp; exact stop e1
              · simp; exact stop (by rw [e1]; cases u <;> rfl)
              · have ru := ry.tup.2 u (by simp)
                have rv := ry.tup.2 v (by simp)
                cases u with
                | str z =>
                  simp [rv, lwInt_index]
                  exact wCond.i (fun hi => go (by rw [e1]; exact hi) _) fun hi => stop (by rw [e1]; exact hi)
                | dict k => exact absurd rfl (ru.nd k)
                | _ => simp; exact stop e1
              · simp; exact stop (by rw [e1]; cases u <;> rfl)
            · have e1 : lwPart cnt R G c (.tuple ts) = false := by
                unfold lwPart
                rw [if_neg (fun z => hn z.1)]; rfl
              simp [partOk]
              exact stop e1
          | _ =>
            simp [d3, d4, la, lb, D_law_int, ry, lok]
            refine wCond.i (fun hi => ?_) fun hi => ?_
            · exact go (by unfold lwPart; rw [if_neg (fun z => by cases z.2)]; exact hi) _
            · exact stop (by unfold lwPart; rw [if_neg (fun z => by cases z.2)]; exact hi)
        · rintro ρ h ⟨i, e, rfl, ⟨o9, o10, rfl⟩, hok⟩
          refine ⟨trivial, ?_⟩
          have hi : ps.length ≤ i := by
            have := congrArg List.length e
            simp [rgD_len] at this
            omega
          simp
          refine fin true ?_
          rw [← hall]
          symm
          rw [List.all_eq_true]
          intro p hp
          obtain ⟨j, hj, e⟩ := List.getElem_of_mem hp
          exact hok j (by omega) p (by rw [← e]; exact List.getElem?_eq_getElem hj)
      · have hl' : ¬ ps.length = f.cps.size := hl
        rw [decide_eq_false hl', Bool.false_and] at hall
        exact fin _ hall
  · have e0 := isDo_no (cnt := cnt) (R := R) (G := G) hx
    cases x with
    | tuple ds =>
      cases ds with
      | nil => simp; exact fin _ e0.symm
      | cons a l =>
        simp at hp
        cases a with
        | str s => exact absurd rfl (hx s l)
        | dict k => simp [Wl.clean] at hp
        | _ => simp [hp, hs]; exact fin _ e0.symm
    | dict k => exact absurd rfl (rx.nd k)
    | _ => simp; exact fin _ e0.symm
end
end K96
set_option Elab.async false
set_option linter.all false
set_option maxRecDepth 100000
set_option maxHeartbeats 4000000
set_option synthInstance.maxHeartbeats 1000000
set_option synthInstance.maxSize 1000000
namespace K96
open PySem PySem.Spec PyProof.Rows L2 Evl Pd Wl
theorem lwInt_num (x : PyData) : lwInt (-999999999999999999) 999999999999999999 x = isNum x := by
  cases x with
  | int i =>
    simp only [lwInt, isNum, absI]
    rw [← Bool.decide_and]
    refine decide_eq_decide.mpr ?_
    split <;> omega
  | _ => rfl
theorem isTst_no {cnt : Int} {x : PyData} (hx : ∀ w ds, x ≠ .tuple (.str w :: ds)) (n : Nat) : isTst cnt n x = false := by
  unfold isTst
  split
  · exact absurd rfl (hx _ _)
  · rfl
theorem isTst_0 {cnt : Int} {x : PyData} : isTst cnt 0 x = false := by rw [isTst]; simp
theorem rgD_drop {n i : Nat} (hi : i < n) : (rgD 0 (n : Nat)).drop i = .int (i : Nat) :: (rgD 0 (n : Nat)).drop (i + 1) := by
  rw [List.drop_eq_getElem_cons (by rw [rgD_len]; omega)]
  congr 1
  simp [rgD]
section
variable {P : Program} {w : World} {K : PySem.W.Frag} {mg : Str → Option Value} {base : Heap}
theorem cal__law_is_test (S : Src K mg "_law_is_test" st__law_is_test ["value", "count", "depth"]) (T : Txt K mg) (C__law_is_integer : Cal P w K mg base CX0 1 "_law_is_integer" ["value", "least", "most"] (SpW K D_law_int)) : Cal P w K mg base CX0 2 "_law_is_test" ["value", "count", "depth"] (SpW K D_law_test) := by
  have sc := sc__law_is_test
  refine S.cal (k := 1) sc (SpW.len fun ds h P z => by obtain ⟨_, _, _, rfl, _⟩ := z; rfl) (fun f cdv A outer s H vs Q E hr h => ⟨_, (pss_cons (ps_for PassesOwn.never rfl (pi_range1 (by rfl) T.n_range (pa_cons (pe_op op_add (pv 2) pe_int) pa_nil)) (pg_name (i := 3) sc.nd rfl (by first | exact Or.inl rfl | exact Or.inr rfl)) (pss_cons (ps_if (PW.pt (pw_or (pt_not (pt_val (pe_callB (k_isi (K := K) rfl) (by rfl) T.n_isinstance (by decide +kernel) (pa_cons (pv 0) (pa_cons (pe_bltn (v := .ty "tuple") (by rfl) T.n_tuple (by decide +kernel) rfl) pa_nil))))) (pw_or (pt_cmpR op_eq (pe_callB (k_len_seq (K := K) rfl) (by rfl) T.n_len PySem.boot_len (pa_cons (pv 0) pa_nil)) pe_int (nomark _)) (pw_or1 (pt_not (pt_val (pe_callB (k_isi (K := K) rfl) (by rfl) T.n_isinstance (by decide +kernel) (pa_cons (pe_ix (k_ix_tup (K := K) rfl) (pv 0) pe_int (fun _ _ => rfl)) (pa_cons (pe_bltn (v := .ty "str") (by rfl) T.n_str (by decide +kernel) rfl) pa_nil))))))))) (pss_one (ps_ret pe_bl)) pss_nil)
  (pss_cons (ps_if (pt_cmpR op_ne (pe_ix (k_ix_tup (K := K) rfl) (pv 0) pe_int (fun _ _ => rfl)) pe_str (nomark _)) (pss_one ps_break) pss_nil)
  (pss_cons (ps_if (PW.pt (pw_or (pt_cmpR op_ne (pe_callB (k_len_seq (K := K) rfl) (by rfl) T.n_len PySem.boot_len (pa_cons (pv 0) pa_nil)) pe_int (nomark _)) (pw_or1 (pt_cmpR op_eq (pv 3) (pv 2) (nomark _))))) (pss_one (ps_ret pe_bl)) pss_nil)
  (pss_one (ps_set (i := 0) sc.nd rfl (by first | exact Or.inl rfl | exact Or.inr rfl) (pe_ix (k_ix_tup (K := K) rfl) (pv 0) pe_int (fun _ _ => rfl))))))))
  (pss_cons (ps_if (pt_cmpR op_eq (pe_ix (k_ix_tup (K := K) rfl) (pv 0) pe_int (fun _ _ => rfl)) pe_str (nomark _)) (pss_one (ps_ret (pe_and (pe_cmpR op_eq (pe_callB (k_len_seq (K := K) rfl) (by rfl) T.n_len PySem.boot_len (pa_cons (pv 0) pa_nil)) pe_int (nomark _)) (pe_and (pe_callB (k_isi (K := K) rfl) (by rfl) T.n_isinstance (by decide +kernel) (pa_cons (pe_ix (k_ix_tup (K := K) rfl) (pv 0) pe_int (fun _ _ => rfl)) (pa_cons (pe_bltn (v := .ty "str") (by rfl) T.n_str (by decide +kernel) rfl) pa_nil))) (pe_one (pe_cmpR (k_in_seq (K := K) rfl) (pe_ix (k_ix_tup (K := K) rfl) (pv 0) pe_int (fun _ _ => rfl)) (pe_lst (pa_cons pe_str (pa_cons pe_str (pa_cons pe_str (pa_cons pe_str (pa_cons pe_str (pa_cons pe_str (pa_cons pe_str pa_nil)))))))) (by rfl))))))) pss_nil)
  (pss_cons (ps_if (pt_cmpR op_eq (pe_ix (k_ix_tup (K := K) rfl) (pv 0) pe_int (fun _ _ => rfl)) pe_str (nomark _)) (pss_one (ps_ret (pe_cmpR op_eq (pe_callB (k_len_seq (K := K) rfl) (by rfl) T.n_len PySem.boot_len (pa_cons (pv 0) pa_nil)) pe_int (nomark _)))) pss_nil)
  (pss_cons (ps_if (PW.pt (pw_or (pt_cmpR (k_notIn_seq (K := K) rfl) (pe_ix (k_ix_tup (K := K) rfl) (pv 0) pe_int (fun _ _ => rfl)) (pe_lst (pa_cons pe_str (pa_cons pe_str pa_nil))) (by rfl)) (pw_or1 (pt_cmpR op_ne (pe_callB (k_len_seq (K := K) rfl) (by rfl) T.n_len PySem.boot_len (pa_cons (pv 0) pa_nil)) pe_int (nomark _))))) (pss_one (ps_ret pe_bl)) pss_nil)
  (pss_one (ps_ret (pe_and (pe_cal C__law_is_integer (hr.mono (by first | decide | omega)) rfl pass0 (pa_cons (pe_ix (k_ix_tup (K := K) rfl) (pv 0) pe_int (fun _ _ => rfl)) (pa_cons pe_int (pa_cons (pe_op op_sub (pv 1) pe_int) pa_nil)))) (pe_one (pe_cal C__law_is_integer (hr.mono (by first | decide | omega)) rfl pass0 (pa_cons (pe_ix (k_ix_tup (K := K) rfl) (pv 0) pe_int (fun _ _ => rfl)) (pa_cons (pe_op op_sub pe_int (pe_op op_pow pe_int pe_int)) (pa_cons (pe_op op_sub (pe_op op_pow pe_int pe_int) pe_int) pa_nil)))))))))))), h.enter fun ds lh P hD => ?_⟩)
  obtain ⟨x, cnt, dep, rfl, rx, hd1, hd2, hk⟩ := hD
  obtain ⟨D, rfl⟩ : ∃ D : Nat, dep = (D : Int) := ⟨dep.toNat, by omega⟩
  have e1 : ((D : Int) + 1).toNat = D + 1 := by omega
  rw [e1] at hk
  have e2 : ((D : Int) + 1) = ((D + 1 : Nat) : Int) := by omega
  simp
  rw [e2]
  refine ⟨by omega, by omega, forL_run (fun ds ρ h => h = lh ∧ ∃ i v o, ds = (rgD 0 ((D + 1 : Nat) : Int)).drop i ∧ i ≤ D ∧ ρ = [some v, some (.int cnt), some (.int (D : Nat)), o] ∧ Rd0 v ∧ isTst cnt (D + 1) x = isTst cnt (D + 1 - i) v) ?_ ?_ ⟨rfl, 0, x, none, rfl, by omega, rfl, rx, rfl⟩⟩
  · rintro d ds ρ h ⟨rfl, i, v, o, e, hi, rfl, rv, hiv⟩
    refine ⟨trivial, fun F hF => ?_⟩
    rw [rgD_drop (by omega)] at e
    cases e
    have hp := rv.pure
    have hs := rv.sh
    rw [hiv] at hk
    rcases head_or v with ⟨wd, rest, rfl⟩ | hx
    · have e3 : D + 1 - i = (D - i) + 1 := by omega
      rw [e3, isTst_succ] at hk
      have rr : ∀ y ∈ rest, Rd0 y := fun y hy => rv.tup.2 y (List.mem_cons_of_mem _ hy)
      simp
      refine wCond.p (fun h0 => ?_) fun h0 => ?_
      · subst h0
        rcases rest with _ | ⟨y, _ | ⟨z, l⟩⟩
        · simpa using hk
        · have ry := rr y (by simp)
          simp at hk ⊢
          refine wCond.p (fun hiD => ?_) fun hiD => ?_
          · subst hiD
            rw [Nat.sub_self, isTst_0] at hk
            exact hk
          · have hlt : i + 1 ≤ D := by
              have : i ≠ D := hiD
              omega
            refine hF _ _ ⟨rfl, i + 1, y, _, rfl, hlt, rfl, ry, ?_⟩
            rw [hiv, e3, isTst_succ]
            have e4 : D + 1 - (i + 1) = D - i := by omega
            rw [e4]
            simp
        · simpa using hk
      · simp [h0] at hk ⊢
        refine wCond.p (fun h1 => ?_) fun h1 => ?_
        · subst h1
          rcases rest with _ | ⟨y, _ | ⟨z, l⟩⟩
          · simpa using hk
          · have ry := rr y (by simp)
            cases y with
            | str u => simpa [answerW] using hk
            | dict k => exact absurd rfl (ry.nd k)
            | _ => simpa using hk
          · simpa using hk
        simp [h1] at hk
        refine wCond.p (fun h2 => ?_) fun h2 => ?_
        · subst h2
          rcases rest with _ | ⟨y, l⟩
          · simpa using hk
          · simpa using hk
        simp [h2] at hk
        rcases rest with _ | ⟨y, _ | ⟨z, _ | ⟨u, l⟩⟩⟩
        · simpa using hk
        · simpa using hk
        · simp [D_law_int, rr y (by simp), rr z (by simp), lwInt_index, lwInt_num] at hk ⊢
          exact hk
        · simpa using hk
    · rw [isTst_no hx] at hk
      cases v with
      | tuple ds =>
        cases ds with
        | nil => simpa using hk
        | cons a l =>
          simp at hp
          cases a with
          | str s => exact absurd rfl (hx s l)
          | dict k => simp [Wl.clean] at hp
          | _ => simpa [hp, hs] using hk
      | dict k => exact absurd rfl (rv.nd k)
      | _ => simpa using hk
  · rintro ρ h ⟨rfl, i, v, o, e, hi, rfl, rv, hiv⟩
    have := congrArg List.length e
    simp [rgD_len] at this
    omega
end
end K96
set_option Elab.async false
set_option linter.all false
set_option maxRecDepth 100000
set_option maxHeartbeats 4000000
set_option synthInstance.maxHeartbeats 1000000
set_option synthInstance.maxSize 1000000
namespace K96
open PySem PySem.Spec PyProof.Rows L2 Evl Pd Wl
section
variable {P : Program} {w : World} {K : PySem.W.Frag} {mg : Str → Option Value} {base : Heap}
abbrev eSh (a b R G e : Int) : PyData := .tuple [.int a, .int b, .int R, .int G, .int e]
def D_law_block (n : Nat) (ds : List PyData) (h : Lh) (P : Wv) : Prop := ∃ x cnt a b R G e dep, ds = [x, .int cnt, eSh a b R G e, .int dep] ∧ Rd0 x ∧ (dep + 1).toNat ≤ n ∧ dep ≤ 20 ∧ P (.bool (isBlk cnt R G (dep + 1).toNat x)) h
theorem block_lstep {k n : Nat} {D' : List PyData → Lh → Wv → Prop} (S : Src K mg "_law_is_block" st__law_is_block ["value", "count", "shape", "depth"]) (T : Txt K mg) (C__law_is_integer : Cal P w K mg base CX0 1 "_law_is_integer" ["value", "least", "most"] (SpW K D_law_int)) (C__law_is_operation : Cal P w K mg base CX0 2 "_law_is_operation" ["value", "count", "roots", "registers"] (SpW K D_law_op)) (C__law_is_test : Cal P w K mg base CX0 2 "_law_is_test" ["value", "count", "depth"] (SpW K D_law_test))
    (hk2 : 2 ≤ k) (C__law_is_block : Cal P w K mg base CX0 k "_law_is_block" ["value", "count", "shape", "depth"] (SpW K D')) (hn : ∀ m, n = m + 1 → D' = D_law_block m) : Cal P w K mg base CX0 (k + 1) "_law_is_block" ["value", "count", "shape", "depth"] (SpW K (D_law_block n)) := by
  have sc := sc__law_is_block
  refine S.cal (k := k) sc (SpW.len fun ds h P z => by obtain ⟨_, _, _, _, _, _, _, _, rfl, _⟩ := z; rfl) (fun f cdv A outer s H vs Q E hr h => ⟨_, (pss_cons (ps_if (PW.pt (pw_or (pt_not (pt_val (pe_callB (k_isi (K := K) rfl) (by rfl) T.n_isinstance (by decide +kernel) (pa_cons (pv 0) (pa_cons (pe_bltn (v := .ty "tuple") (by rfl) T.n_tuple (by decide +kernel) rfl) pa_nil))))) (pw_or1 (pt_cmpR op_lt (pv 3) pe_int (nomark _))))) (pss_one (ps_ret pe_bl)) pss_nil)
  (pss_cons (ps_for PassesOwn.never rfl (k_pi_tup (K := K) rfl (pv 0)) (pg_name (i := 4) sc.nd rfl (by first | exact Or.inl rfl | exact Or.inr rfl)) (pss_cons (ps_if (PW.pt (pw_or (pt_not (pt_val (pe_callB (k_isi (K := K) rfl) (by rfl) T.n_isinstance (by decide +kernel) (pa_cons (pv 4) (pa_cons (pe_bltn (v := .ty "tuple") (by rfl) T.n_tuple (by decide +kernel) rfl) pa_nil))))) (pw_or (pt_cmpR op_eq (pe_callB (k_len_seq (K := K) rfl) (by rfl) T.n_len PySem.boot_len (pa_cons (pv 4) pa_nil)) pe_int (nomark _)) (pw_or1 (pt_not (pt_val (pe_callB (k_isi (K := K) rfl) (by rfl) T.n_isinstance (by decide +kernel) (pa_cons (pe_ix (k_ix_tup (K := K) rfl) (pv 4) pe_int (fun _ _ => rfl)) (pa_cons (pe_bltn (v := .ty "str") (by rfl) T.n_str (by decide +kernel) rfl) pa_nil))))))))) (pss_one (ps_ret pe_bl)) pss_nil)
  (pss_cons (ps_set (i := 5) sc.nd rfl (by first | exact Or.inl rfl | exact Or.inr rfl) (pe_ix (k_ix_tup (K := K) rfl) (pv 4) pe_int (fun _ _ => rfl)))
  (pss_cons (ps_if (pt_cmpR op_ne (pe_callB (k_len_seq (K := K) rfl) (by rfl) T.n_len PySem.boot_len (pa_cons (pv 4) pa_nil)) (pe_dget2 (hu_of hr) (pe_disp (pps_cons pe_str pe_int (pps_cons pe_str pe_int (pps_cons pe_str pe_int (pps_cons pe_str pe_int (pps_cons pe_str pe_int (pps_cons pe_str pe_int pps_nil)))))) rfl rfl (by intro h; cases h) (by decide)) (pv 5) pe_int ⟨rfl, rfl, rfl, rfl⟩) (nomark _)) (pss_one (ps_ret pe_bl)) pss_nil)
  (pss_cons (ps_if (PW.pt (pw_and (pt_cmpR op_eq (pv 5) pe_str (nomark _)) (pw_and1 (pt_not (pt_val (pe_cal C__law_is_operation (hr.mono (by first | decide | omega)) rfl pass0 (pa_cons (pe_ix (k_ix_tup (K := K) rfl) (pv 4) pe_int (fun _ _ => rfl)) (pa_cons (pv 1) (pa_cons (pe_ix (k_ix_tup (K := K) rfl) (pv 2) pe_int (fun _ _ => rfl)) (pa_cons (pe_ix (k_ix_tup (K := K) rfl) (pv 2) pe_int (fun _ _ => rfl)) pa_nil)))))))))) (pss_one (ps_ret pe_bl)) pss_nil)
  (pss_cons (ps_if (PW.pt (pw_and (pt_cmpR (k_in_seq (K := K) rfl) (pv 5) (pe_lst (pa_cons pe_str (pa_cons pe_str pa_nil))) (by rfl)) (pw_and1 (pt_not (pt_val (pe_cal C__law_is_integer (hr.mono (by first | decide | omega)) rfl pass0 (pa_cons (pe_ix (k_ix_tup (K := K) rfl) (pv 4) pe_int (fun _ _ => rfl)) (pa_cons pe_int (pa_cons (pe_op op_sub (pv 1) pe_int) pa_nil))))))))) (pss_one (ps_ret pe_bl)) pss_nil)
  (pss_cons (ps_if (PW.pt (pw_and (pt_cmpR op_eq (pv 5) pe_str (nomark _)) (pw_and1 (pt_not (pt_val (pe_cal C__law_is_integer (hr.mono (by first | decide | omega)) rfl pass0 (pa_cons (pe_ix (k_ix_tup (K := K) rfl) (pv 4) pe_int (fun _ _ => rfl)) (pa_cons (pe_op op_sub pe_int (pe_op op_pow pe_int pe_int)) (pa_cons (pe_op op_sub (pe_op op_pow pe_int pe_int) pe_int) pa_nil))))))))) (pss_one (ps_ret pe_bl)) pss_nil)
  (pss_one (ps_if (pt_cmpR (k_in_seq (K := K) rfl) (pv 5) (pe_lst (pa_cons pe_str (pa_cons pe_str pa_nil))) (by rfl)) (pss_cons (ps_if (pt_not (pt_val (pe_cal C__law_is_test (hr.mono (by first | decide | omega)) rfl pass0 (pa_cons (pe_ix (k_ix_tup (K := K) rfl) (pv 4) pe_int (fun _ _ => rfl)) (pa_cons (pv 1) (pa_cons (pv 3) pa_nil)))))) (pss_one (ps_ret pe_bl)) pss_nil)
  (pss_one (ps_if (pt_not (pt_val (pe_callB (k_all (K := K) rfl rfl) (by rfl) T.n_all (by decide +kernel) (pa_cons (pe_lc (own := [("part", 6)]) rfl sc.nd (k_pi_tup (K := K) rfl (pe_slice (k_sl_tupA (K := K) rfl) (pv 4) (po_some pe_int) po_none)) (blkOk_by (by first | decide +kernel | kernel_rfl)) (fun _ _ _ _ _ => (pg_name (i := 6) sc.nd rfl (by first | exact Or.inl rfl | exact Or.inr rfl))) (fun _ _ _ _ _ => pts_nil) (fun _ _ _ _ _ => (pe_cal C__law_is_block (hr.mono (by first | decide | omega)) rfl pass0 (pa_cons (pv 6) (pa_cons (pv 1) (pa_cons (pv 2) (pa_cons (pe_op op_sub (pv 3) pe_int) pa_nil))))))) pa_nil)))) (pss_one (ps_ret pe_bl)) pss_nil))) pss_nil)))))))))
  (pss_one (ps_ret pe_bl)))), h.enterF fun ds lh P hD => ?_⟩)
  obtain ⟨x, cnt, a, b, R, G, e, dep, rfl, rx, hle, h20, hk⟩ := hD
  cases x with
  | dict k => exact absurd rfl (rx.nd k)
  | tuple ds =>
    simp
    refine wCond.p (fun hd => ?_) fun hd => ?_
    · have e0 : (dep + 1).toNat = 0 := by omega
      rw [e0] at hk
      exact hk
    · obtain ⟨m, rfl⟩ : ∃ m : Nat, dep = (m : Int) := ⟨dep.toNat, by omega⟩
      have e1 : ((m : Int) + 1).toNat = m + 1 := by omega
      rw [e1] at hle hk
      obtain ⟨n', rfl⟩ : ∃ n', n = n' + 1 := ⟨n - 1, by omega⟩
      have := hn n' rfl
      subst this
      have hk' : P (.bool (ds.all (isStm cnt R G (isTst cnt (m + 1)) (isBlk cnt R G m)))) lh := hk
      refine forL_run (fun es ρ h => (∀ a o, lh a = some o → h a = some o) ∧ ∃ i o1 o2 o3, es = ds.drop i ∧ ρ = [some (.tuple ds), some (.int cnt), some (eSh a b R G e), some (.int (m : Nat)), o1, o2, o3] ∧ ∀ y ∈ ds.take i, isStm cnt R G (isTst cnt (m + 1)) (isBlk cnt R G m) y = true) ?_ ?_ ⟨fun _ _ z => z, 0, _, _, _, rfl, rfl, by simp⟩
      · rintro y es ρ h ⟨sub, i, o1, o2, o3, ee, rfl, hok⟩
        refine ⟨trivial, fun F hF => ?_⟩
        have hi : ds[i]? = some y := by
          have := congrArg (fun l => l[0]?) ee
          simpa using this.symm
        have hes : es = ds.drop (i + 1) := by
          have := congrArg List.tail ee
          simpa [List.tail_drop] using this
        subst hes
        have ry : Rd0 y := rx.tup.2 y (List.mem_of_getElem? hi)
        have go : isStm cnt R G (isTst cnt (m + 1)) (isBlk cnt R G m) y = true → ∀ h' : Lh, (∀ a o, h a = some o → h' a = some o) → ∀ o1 o2 o3, F [some (.tuple ds), some (.int cnt), some (eSh a b R G e), some (.int (m : Nat)), o1, o2, o3] h' := fun hz h' hs o1 o2 o3 => hF _ _ ⟨fun a o z => hs _ _ (sub _ _ z), i + 1, o1, o2, o3, rfl, rfl, fun z hz' => by
          rw [Pd.take_more hi] at hz'
          rcases List.mem_append.mp hz' with q | q
          · exact hok z q
          · cases List.mem_singleton.mp q; exact hz⟩
        have stop : isStm cnt R G (isTst cnt (m + 1)) (isBlk cnt R G m) y = false → ∀ h' : Lh, (∀ a o, h a = some o → h' a = some o) → (∀ a o, lh a = some o → h' a = some o) ∧ P (.bool false) lh := fun hz h' hs => ⟨fun a o z => hs _ _ (sub _ _ z), by
          have : ds.all (isStm cnt R G (isTst cnt (m + 1)) (isBlk cnt R G m)) = false := List.all_eq_false.mpr ⟨y, List.mem_of_getElem? hi, by simp [hz]⟩
          rw [this] at hk'; exact hk'⟩
        have hp := ry.pure
        have hs := ry.sh
        have e2 : ((m : Int) - 1 + 1).toNat = m := by omega
        rcases head_or y with ⟨wd, rest, rfl⟩ | hx
        · rw [isStm_eq] at go stop
          have rr : ∀ y ∈ rest, Rd0 y := fun y hy => ry.tup.2 y (List.mem_cons_of_mem _ hy)
          have subp : ∀ (p : Addr) (o : LO), h p = none → ∀ a u, h a = some u → up h p o a = some u := fun p o n a u z => by rw [up_ne (fun q => by rw [q, n] at z; cases z)]; exact z
          by_cases w1 : wd = "do"
          · subst w1
            rcases rest with _ | ⟨y1, _ | ⟨y2, l⟩⟩
            · simp; exact fun p hp => stop (by simp) _ (subp p _ hp)
            · simp [D_law_op, rr y1 (by simp)]
              exact fun p hp => wCond.i (fun hz => go (by simpa using hz) _ (subp p _ hp) _ _ _) fun hz => stop (by simpa using hz) _ (subp p _ hp)
            · simp; exact fun p hp => stop (by simp) _ (subp p _ hp)
          by_cases w2 : wd = "add"
          · subst w2
            rcases rest with _ | ⟨y1, _ | ⟨y2, _ | ⟨y3, l⟩⟩⟩
            · simp; exact fun p hp => stop (by simp) _ (subp p _ hp)
            · simp; exact fun p hp => stop (by simp) _ (subp p _ hp)
            · simp [D_law_int, rr y1 (by simp), rr y2 (by simp), lwInt_index, lwInt_num]
              exact fun p hp => wCond.i (fun hz => go (by simpa using hz) _ (subp p _ hp) _ _ _) fun hz => stop (by simpa using hz) _ (subp p _ hp)
            · simp; exact fun p hp => stop (by simp) _ (subp p _ hp)
          by_cases w3 : wd = "keep"
          · subst w3
            rcases rest with _ | ⟨y1, _ | ⟨y2, l⟩⟩
            · simp; exact fun p hp => stop (by simp) _ (subp p _ hp)
            · simp [D_law_int, rr y1 (by simp), lwInt_index]
              exact fun p hp => wCond.i (fun hz => go (by simpa using hz) _ (subp p _ hp) _ _ _) fun hz => stop (by simpa using hz) _ (subp p _ hp)
            · simp; exact fun p hp => stop (by simp) _ (subp p _ hp)
          by_cases w4 : wd = "while"
          · subst w4
            rcases rest with _ | ⟨y1, _ | ⟨y2, _ | ⟨y3, l⟩⟩⟩
            · simp; exact fun p hp => stop (by simp) _ (subp p _ hp)
            · simp; exact fun p hp => stop (by simp) _ (subp p _ hp)
            · simp [D_law_test, rr y1 (by simp), e1]
              refine fun p hp => ⟨by omega, wCond.i (fun ht => ⟨y2, cnt, a, b, R, G, e, _, rfl, rr y2 (by simp), by omega, by omega, ?_⟩) fun hz => stop (by simp [hz]) _ (subp p _ hp)⟩
              rw [e2]
              simp
              exact wCond.i (fun hz => go (by simp [ht, hz]) _ (subp p _ hp) _ _ _) fun hz => stop (by simp [hz]) _ (subp p _ hp)
            · simp; exact fun p hp => stop (by simp) _ (subp p _ hp)
          by_cases w5 : wd = "if"
          · subst w5
            rcases rest with _ | ⟨y1, _ | ⟨y2, _ | ⟨y3, _ | ⟨y4, l⟩⟩⟩⟩
            · simp; exact fun p hp => stop (by simp) _ (subp p _ hp)
            · simp; exact fun p hp => stop (by simp) _ (subp p _ hp)
            · simp; exact fun p hp => stop (by simp) _ (subp p _ hp)
            · simp [D_law_test, rr y1 (by simp), e1]
              refine fun p hp => ⟨by omega, wCond.i (fun ht => ⟨y2, cnt, a, b, R, G, e, _, rfl, rr y2 (by simp), by omega, by omega, ⟨y3, cnt, a, b, R, G, e, _, rfl, rr y3 (by simp), by omega, by omega, ?_⟩⟩) fun hz => stop (by simp [hz]) _ (subp p _ hp)⟩
              rw [e2]
              simp
              exact wCond.i (fun hz => go (by simp at hz; simp [ht, hz]) _ (subp p _ hp) _ _ _) fun hz => stop (by simp at hz; simp; intro _; exact hz) _ (subp p _ hp)
            · simp; exact fun p hp => stop (by simp) _ (subp p _ hp)
          by_cases w6 : wd = "stop"
          · subst w6
            rcases rest with _ | ⟨y1, l⟩
            · simp; exact fun p hp => go (by simp) _ (subp p _ hp) _ _ _
            · simp; exact fun p hp => stop (by simp) _ (subp p _ hp)
          have nn : ∀ {z : Str}, ¬ wd = z → ¬ z = wd := fun h q => h q.symm
          simp [w1, w2, w3, w4, w5, w6, nn w1, nn w2, nn w3, nn w4, nn w5, nn w6]
          exact fun p hp => stop (by simp [w1, w2, w3, w4, w5, w6]) _ (subp p _ hp)
        · have e0 : isStm cnt R G (isTst cnt (m + 1)) (isBlk cnt R G m) y = false := by
            unfold isStm
            split
            · exact absurd rfl (hx _ _)
            · rfl
          have st := stop e0 h (fun _ _ z => z)
          cases y with
          | tuple ts =>
            cases ts with
            | nil => simpa using st
            | cons a l =>
              cases a with
              | str s => exact absurd rfl (hx s l)
              | dict k => simp [Wl.clean] at hp
              | _ => simpa using st
          | dict k => exact absurd rfl (ry.nd k)
          | _ => simpa using st
      · rintro ρ h ⟨sub, i, o1, o2, o3, ee, rfl, hok⟩
        refine ⟨trivial, ?_⟩
        simp
        refine ⟨sub, ?_⟩
        have hi : ds.length ≤ i := by
          have := congrArg List.length ee
          simp at this
          omega
        rw [List.take_of_length_le hi] at hok
        have : ds.all (isStm cnt R G (isTst cnt (m + 1)) (isBlk cnt R G m)) = true := List.all_eq_true.mpr hok
        rw [this] at hk'; exact hk'
  | _ =>
    rw [isBlk_no _ _ _ _ (fun ds => by rintro ⟨⟩)] at hk
    simpa using hk
end
end K96
set_option Elab.async false
set_option linter.all false
set_option maxRecDepth 100000
set_option maxHeartbeats 4000000
set_option synthInstance.maxHeartbeats 1000000
set_option synthInstance.maxSize 1000000
namespace K96
open PySem PySem.Spec PyProof.Rows L2 Evl Pd Wl
def D_ltel (ds : List PyData) (h : Lh) (P : Wv) : Prop := ∃ x a b R G e, ds = [x, eSh a b R G e] ∧ Rd0 x ∧ P (.bool (isTel R G x)) h
section
variable {P : Program} {w : World} {K : PySem.W.Frag} {mg : Str → Option Value} {base : Heap}
theorem cal__law_is_block (S : Src K mg "_law_is_block" st__law_is_block ["value", "count", "shape", "depth"]) (T : Txt K mg) (C__law_is_integer : Cal P w K mg base CX0 1 "_law_is_integer" ["value", "least", "most"] (SpW K D_law_int)) (C__law_is_operation : Cal P w K mg base CX0 2 "_law_is_operation" ["value", "count", "roots", "registers"] (SpW K D_law_op)) (C__law_is_test : Cal P w K mg base CX0 2 "_law_is_test" ["value", "count", "depth"] (SpW K D_law_test)) : ∀ n, Cal P w K mg base CX0 (n + 3) "_law_is_block" ["value", "count", "shape", "depth"] (SpW K (D_law_block n))
  | 0 => block_lstep S T C__law_is_integer C__law_is_operation C__law_is_test (k := 2) (by omega) (cal_none S) (fun m h => by omega)
  | n + 1 => block_lstep S T C__law_is_integer C__law_is_operation C__law_is_test (k := n + 3) (by omega) (cal__law_is_block S T C__law_is_integer C__law_is_operation C__law_is_test n) (fun m h => by
      have : n = m := by omega
      rw [this])
theorem cal__law_is_teller (S : Src K mg "_law_is_teller" st__law_is_teller ["value", "shape"]) (T : Txt K mg) (C__law_is_integer : Cal P w K mg base CX0 1 "_law_is_integer" ["value", "least", "most"] (SpW K D_law_int)) (C__law_is_block : Cal P w K mg base CX0 24 "_law_is_block" ["value", "count", "shape", "depth"] (SpW K (D_law_block 21))) : Cal P w K mg base CX0 25 "_law_is_teller" ["value", "shape"] (SpW K D_ltel) := by
  have sc := sc__law_is_teller
  refine S.cal (k := 24) sc (SpW.len fun ds h P z => by obtain ⟨_, _, _, _, _, _, rfl, _⟩ := z; rfl) (fun f cdv A outer s H vs Q E hr h => ⟨_, (pss_cons (ps_if (PW.pt (pw_or (pt_not (pt_val (pe_callB (k_isi (K := K) rfl) (by rfl) T.n_isinstance (by decide +kernel) (pa_cons (pv 0) (pa_cons (pe_bltn (v := .ty "tuple") (by rfl) T.n_tuple (by decide +kernel) rfl) pa_nil))))) (pw_or (pt_cmpR op_ne (pe_callB (k_len_seq (K := K) rfl) (by rfl) T.n_len PySem.boot_len (pa_cons (pv 0) pa_nil)) pe_int (nomark _)) (pw_or1 (pt_not (pt_val (pe_cal C__law_is_integer (hr.mono (by first | decide | omega)) rfl pass0 (pa_cons (pe_ix (k_ix_tup (K := K) rfl) (pv 0) pe_int (fun _ _ => rfl)) (pa_cons pe_int (pa_cons pe_int pa_nil)))))))))) (pss_one (ps_ret pe_bl)) pss_nil)
  (pss_one (ps_ret (pe_cal C__law_is_block (hr.mono (by first | decide | omega)) rfl pass0 (pa_cons (pe_ix (k_ix_tup (K := K) rfl) (pv 0) pe_int (fun _ _ => rfl)) (pa_cons (pe_ix (k_ix_tup (K := K) rfl) (pv 0) pe_int (fun _ _ => rfl)) (pa_cons (pv 1) (pa_cons pe_int pa_nil)))))))), h.enter fun ds lh P hD => ?_⟩)
  obtain ⟨x, a, b, R, G, e, rfl, rx, hk⟩ := hD
  cases x with
  | dict k => exact absurd rfl (rx.nd k)
  | tuple ds =>
    rcases ds with _ | ⟨y, _ | ⟨z, _ | ⟨u, l⟩⟩⟩
    · simpa [isTel] using hk
    · simpa [isTel] using hk
    · have ry := rx.tup.2 y (by simp)
      have rz := rx.tup.2 z (by simp)
      cases y with
      | int c =>
        simp [D_law_int, ry, lwInt]
        refine wCond.i (fun hb => ⟨z, c, a, b, R, G, e, 20, rfl, rz, by decide, by decide, ?_⟩) fun hb => ?_
        · have e1 : isTel R G (.tuple [.int c, z]) = (decide (0 ≤ c) && decide (c ≤ 100) && isBlk c R G 21 z) := rfl
          rw [e1, hb, Bool.true_and] at hk
          exact hk
        · have e1 : isTel R G (.tuple [.int c, z]) = (decide (0 ≤ c) && decide (c ≤ 100) && isBlk c R G 21 z) := rfl
          rw [e1, hb, Bool.false_and] at hk
          exact hk
      | _ => simpa [isTel, D_law_int, ry, lwInt] using hk
    · simpa [isTel] using hk
  | _ => simpa [isTel] using hk
end
end K96
set_option Elab.async false
set_option linter.all false
set_option maxRecDepth 100000
set_option maxHeartbeats 4000000
set_option synthInstance.maxHeartbeats 1000000
set_option synthInstance.maxSize 1000000
namespace K96
open PySem PySem.Spec PyProof.Rows L2 Evl Pd Wl
theorem isOp_eq (R G : Int) (w f : Str) (ps : List PyData) (hf : formS w = some f) : isOp R G (.tuple (.str w :: ps)) = (decide (ps.length = f.cps.size) && (f.cps.toList.zip ps).all (kpart R G)) := by
  show (match formS w with | none => false | some f => _) = _
  rw [hf]
theorem ch_r : (⟨#[114]⟩ : Str) = "r" := by decide +kernel
theorem part_r {R G i : Int} (h : 0 ≤ i ∧ i < G) : kpart R G (114, .int i) = true := by
  show partOk R G ⟨#[114]⟩ (.int i) = true
  rw [ch_r]
  simp [partOk, h]
theorem ch_s : (⟨#[115]⟩ : Str) = "s" := by decide +kernel
theorem part_s {R G i : Int} (h : 1 ≤ i ∧ i ≤ 1000000000) : kpart R G (115, .int i) = true := by
  show partOk R G ⟨#[115]⟩ (.int i) = true
  rw [ch_s]
  simp [partOk, h]
theorem ch_k : (⟨#[107]⟩ : Str) = "k" := by decide +kernel
theorem part_k {R G i : Int} (h : 0 ≤ i ∧ i ≤ 1000000000) : kpart R G (107, .int i) = true := by
  show partOk R G ⟨#[107]⟩ (.int i) = true
  rw [ch_k]
  simp [partOk, h]
theorem ch_n : (⟨#[110]⟩ : Str) = "n" := by decide +kernel
theorem part_n {R G i : Int} (h : absI i < 1000000000000000000) : kpart R G (110, .int i) = true := by
  show partOk R G ⟨#[110]⟩ (.int i) = true
  rw [ch_n]
  simp [partOk, h]
theorem ch_i : (⟨#[105]⟩ : Str) = "i" := by decide +kernel
theorem part_i {R G i : Int} (h : 0 ≤ i ∧ i < R) : kpart R G (105, .int i) = true := by
  show partOk R G ⟨#[105]⟩ (.int i) = true
  rw [ch_i]
  simp [partOk, h]
theorem op_put {R G : Int} {a0 a1 : Int} (h0 : 0 ≤ a0 ∧ a0 < G) (h1 : 1 ≤ a1 ∧ a1 ≤ 1000000000) : isOp R G (.tuple [.str "put", .int a0, .int a1]) = true := by
  rw [isOp_eq R G "put" "rs" _ (by decide +kernel), show ("rs" : Str).cps.toList = [114, 115] by decide +kernel, show ("rs" : Str).cps.size = 2 by decide +kernel]
  simp only [List.length_cons, List.length_nil, List.zip_cons_cons, List.zip_nil_right, List.all_cons, List.all_nil, part_r h0, part_s h1]
  rfl
theorem op_get {R G : Int} {a0 a1 : Int} (h0 : 0 ≤ a0 ∧ a0 < G) (h1 : 0 ≤ a1 ∧ a1 ≤ 1000000000) : isOp R G (.tuple [.str "get", .int a0, .int a1]) = true := by
  rw [isOp_eq R G "get" "rk" _ (by decide +kernel), show ("rk" : Str).cps.toList = [114, 107] by decide +kernel, show ("rk" : Str).cps.size = 2 by decide +kernel]
  simp only [List.length_cons, List.length_nil, List.zip_cons_cons, List.zip_nil_right, List.all_cons, List.all_nil, part_r h0, part_k h1]
  rfl
theorem op_set {R G : Int} {a0 a1 a2 : Int} (h0 : 0 ≤ a0 ∧ a0 < G) (h1 : 0 ≤ a1 ∧ a1 ≤ 1000000000) (h2 : absI a2 < 1000000000000000000) : isOp R G (.tuple [.str "set", .int a0, .int a1, .int a2]) = true := by
  rw [isOp_eq R G "set" "rkn" _ (by decide +kernel), show ("rkn" : Str).cps.toList = [114, 107, 110] by decide +kernel, show ("rkn" : Str).cps.size = 3 by decide +kernel]
  simp only [List.length_cons, List.length_nil, List.zip_cons_cons, List.zip_nil_right, List.all_cons, List.all_nil, part_r h0, part_k h1, part_n h2]
  rfl
theorem op_load {R G : Int} {a0 a1 a2 : Int} (h0 : 0 ≤ a0 ∧ a0 < G) (h1 : 0 ≤ a1 ∧ a1 < G) (h2 : 0 ≤ a2 ∧ a2 ≤ 1000000000) : isOp R G (.tuple [.str "load", .int a0, .int a1, .int a2]) = true := by
  rw [isOp_eq R G "load" "rrk" _ (by decide +kernel), show ("rrk" : Str).cps.toList = [114, 114, 107] by decide +kernel, show ("rrk" : Str).cps.size = 3 by decide +kernel]
  simp only [List.length_cons, List.length_nil, List.zip_cons_cons, List.zip_nil_right, List.all_cons, List.all_nil, part_r h0, part_r h1, part_k h2]
  rfl
theorem op_store {R G : Int} {a0 a1 a2 : Int} (h0 : 0 ≤ a0 ∧ a0 < G) (h1 : 0 ≤ a1 ∧ a1 ≤ 1000000000) (h2 : 0 ≤ a2 ∧ a2 < G) : isOp R G (.tuple [.str "store", .int a0, .int a1, .int a2]) = true := by
  rw [isOp_eq R G "store" "rkr" _ (by decide +kernel), show ("rkr" : Str).cps.toList = [114, 107, 114] by decide +kernel, show ("rkr" : Str).cps.size = 3 by decide +kernel]
  simp only [List.length_cons, List.length_nil, List.zip_cons_cons, List.zip_nil_right, List.all_cons, List.all_nil, part_r h0, part_k h1, part_r h2]
  rfl
theorem op_root {R G : Int} {a0 a1 : Int} (h0 : 0 ≤ a0 ∧ a0 < R) (h1 : 0 ≤ a1 ∧ a1 < G) : isOp R G (.tuple [.str "root", .int a0, .int a1]) = true := by
  rw [isOp_eq R G "root" "ir" _ (by decide +kernel), show ("ir" : Str).cps.toList = [105, 114] by decide +kernel, show ("ir" : Str).cps.size = 2 by decide +kernel]
  simp only [List.length_cons, List.length_nil, List.zip_cons_cons, List.zip_nil_right, List.all_cons, List.all_nil, part_i h0, part_r h1]
  rfl
theorem op_take {R G : Int} {a0 a1 : Int} (h0 : 0 ≤ a0 ∧ a0 < G) (h1 : 0 ≤ a1 ∧ a1 < R) : isOp R G (.tuple [.str "take", .int a0, .int a1]) = true := by
  rw [isOp_eq R G "take" "ri" _ (by decide +kernel), show ("ri" : Str).cps.toList = [114, 105] by decide +kernel, show ("ri" : Str).cps.size = 2 by decide +kernel]
  simp only [List.length_cons, List.length_nil, List.zip_cons_cons, List.zip_nil_right, List.all_cons, List.all_nil, part_r h0, part_i h1]
  rfl
theorem op_copy {R G : Int} {a0 a1 : Int} (h0 : 0 ≤ a0 ∧ a0 < G) (h1 : 0 ≤ a1 ∧ a1 < G) : isOp R G (.tuple [.str "copy", .int a0, .int a1]) = true := by
  rw [isOp_eq R G "copy" "rr" _ (by decide +kernel), show ("rr" : Str).cps.toList = [114, 114] by decide +kernel, show ("rr" : Str).cps.size = 2 by decide +kernel]
  simp only [List.length_cons, List.length_nil, List.zip_cons_cons, List.zip_nil_right, List.all_cons, List.all_nil, part_r h0, part_r h1]
  rfl
theorem op_drop {R G : Int} {a0 : Int} (h0 : 0 ≤ a0 ∧ a0 < G) : isOp R G (.tuple [.str "drop", .int a0]) = true := by
  rw [isOp_eq R G "drop" "r" _ (by decide +kernel), show ("r" : Str).cps.toList = [114] by decide +kernel, show ("r" : Str).cps.size = 1 by decide +kernel]
  simp only [List.length_cons, List.length_nil, List.zip_cons_cons, List.zip_nil_right, List.all_cons, List.all_nil, part_r h0]
  rfl
theorem op_same {R G : Int} {a0 a1 : Int} (h0 : 0 ≤ a0 ∧ a0 < G) (h1 : 0 ≤ a1 ∧ a1 < G) : isOp R G (.tuple [.str "same", .int a0, .int a1]) = true := by
  rw [isOp_eq R G "same" "rr" _ (by decide +kernel), show ("rr" : Str).cps.toList = [114, 114] by decide +kernel, show ("rr" : Str).cps.size = 2 by decide +kernel]
  simp only [List.length_cons, List.length_nil, List.zip_cons_cons, List.zip_nil_right, List.all_cons, List.all_nil, part_r h0, part_r h1]
  rfl
theorem op_size {R G : Int} {a0 : Int} (h0 : 0 ≤ a0 ∧ a0 < G) : isOp R G (.tuple [.str "size", .int a0]) = true := by
  rw [isOp_eq R G "size" "r" _ (by decide +kernel), show ("r" : Str).cps.toList = [114] by decide +kernel, show ("r" : Str).cps.size = 1 by decide +kernel]
  simp only [List.length_cons, List.length_nil, List.zip_cons_cons, List.zip_nil_right, List.all_cons, List.all_nil, part_r h0]
  rfl
/-- a drawn operation -/
def OpP (R G : Int) (d : PyData) : Prop := ∃ w ns, d = .tuple (.str w :: (ns : List Int).map .int) ∧ ns.length ≤ 3 ∧ PyData.strOk w = true ∧ isOp R G d = true
def D_lop (ds : List PyData) (h : Lh) (P : Wv) : Prop := ∃ (t c : Addr) (R G : Nat), ds = [rf t, .int (R : Nat), .int (G : Nat)] ∧ TapeOk t c h ∧ R ≤ 1000 ∧ 1 ≤ G ∧ G ≤ 1000 ∧ ∀ d, OpP R G d → ∀ h', TapeGo t c h h' → P d h'
section
variable {P : Program} {w : World} {K : PySem.W.Frag} {mg : Str → Option Value} {base : Heap}
theorem cal__law_operation (S : Src K mg "_law_operation" st__law_operation ["tape", "roots", "registers"]) (T : Txt K mg) (C__law_draw : Cal P w K mg base CX0 1 "_law_draw" ["tape", "many"] (SpW K D_draw)) (C__law_pick : Cal P w K mg base CX0 2 "_law_pick" ["tape", "row"] (SpW K D_pick)) : Cal P w K mg base CX0 3 "_law_operation" ["tape", "roots", "registers"] (SpW K D_lop) := by
  have sc := sc__law_operation
  refine S.cal (k := 2) sc (SpW.len fun ds h P z => by obtain ⟨_, _, _, _, rfl, _⟩ := z; rfl) (fun f cdv A outer s H vs Q E hr h => ⟨_, (pss_cons (ps_set (i := 3) sc.nd rfl (by first | exact Or.inl rfl | exact Or.inr rfl) (pe_lst (pa_cons pe_str (pa_cons pe_str (pa_cons pe_str (pa_cons pe_str (pa_cons pe_str (pa_cons pe_str (pa_cons pe_str (pa_cons pe_str (pa_cons pe_str (pa_cons pe_str (pa_cons pe_str (pa_cons pe_str (pa_cons pe_str (pa_cons pe_str pa_nil))))))))))))))))
  (pss_cons (ps_set (i := 4) sc.nd rfl (by first | exact Or.inl rfl | exact Or.inr rfl) (pe_cal C__law_pick (hr.mono (by first | decide | omega)) rfl pass0 (pa_cons (pv 0) (pa_cons (pv 3) pa_nil))))
  (pss_cons (ps_par3 (i := 5) (j := 6) (l := 7) rfl sc.nd rfl rfl rfl (by decide) (by decide) (by decide) rfl rfl rfl (pa_cons (pe_cal C__law_draw (hr.mono (by first | decide | omega)) rfl pass0 (pa_cons (pv 0) (pa_cons (pv 2) pa_nil))) (pa_cons (pe_cal C__law_draw (hr.mono (by first | decide | omega)) rfl pass0 (pa_cons (pv 0) (pa_cons (pv 2) pa_nil))) (pa_cons (pe_cal C__law_pick (hr.mono (by first | decide | omega)) rfl pass0 (pa_cons (pv 0) (pa_cons (pe_lst (pa_cons pe_int (pa_cons pe_int (pa_cons pe_int (pa_cons pe_int (pa_cons pe_int (pa_cons pe_int pa_nil))))))) pa_nil))) pa_nil))) (by rfl))
  (pss_cons (ps_if (PW.pt (pw_and (pt_cmpR (k_in_seq (K := K) rfl) (pv 4) (pe_lst (pa_cons pe_str (pa_cons pe_str pa_nil))) (by rfl)) (pw_and1 (pt_cmpR op_eq (pv 1) pe_int (nomark _))))) (pss_one (ps_set (i := 4) sc.nd rfl (by first | exact Or.inl rfl | exact Or.inr rfl) pe_str)) pss_nil)
  (pss_cons (ps_if (pt_cmpR op_eq (pv 4) pe_str (nomark _)) (pss_one (ps_ret (pe_tup (pa_cons pe_str (pa_cons (pv 5) (pa_cons (pe_cal C__law_pick (hr.mono (by first | decide | omega)) rfl pass0 (pa_cons (pv 0) (pa_cons (pe_lst (pa_cons pe_int (pa_cons pe_int (pa_cons pe_int (pa_cons pe_int (pa_cons pe_int (pa_cons pe_int (pa_cons pe_int pa_nil)))))))) pa_nil))) pa_nil)))))) pss_nil)
  (pss_cons (ps_if (pt_cmpR op_eq (pv 4) pe_str (nomark _)) (pss_one (ps_ret (pe_tup (pa_cons pe_str (pa_cons (pv 5) (pa_cons (pv 7) pa_nil)))))) pss_nil)
  (pss_cons (ps_if (pt_cmpR op_eq (pv 4) pe_str (nomark _)) (pss_one (ps_ret (pe_tup (pa_cons pe_str (pa_cons (pv 5) (pa_cons (pv 7) (pa_cons (pe_cal C__law_pick (hr.mono (by first | decide | omega)) rfl pass0 (pa_cons (pv 0) (pa_cons (pe_lst (pa_cons pe_int (pa_cons pe_int (pa_cons pe_int (pa_cons (pe_un un_neg pe_int) (pa_cons pe_int (pa_cons (pe_op op_sub (pe_op op_pow pe_int pe_int) pe_int) (pa_cons (pe_op op_sub pe_int (pe_op op_pow pe_int pe_int)) pa_nil)))))))) pa_nil))) pa_nil))))))) pss_nil)
  (pss_cons (ps_if (pt_cmpR op_eq (pv 4) pe_str (nomark _)) (pss_one (ps_ret (pe_tup (pa_cons pe_str (pa_cons (pv 6) (pa_cons (pv 5) (pa_cons (pv 7) pa_nil))))))) pss_nil)
  (pss_cons (ps_if (pt_cmpR op_eq (pv 4) pe_str (nomark _)) (pss_one (ps_ret (pe_tup (pa_cons pe_str (pa_cons (pv 5) (pa_cons (pv 7) (pa_cons (pv 6) pa_nil))))))) pss_nil)
  (pss_cons (ps_if (pt_cmpR (k_in_seq (K := K) rfl) (pv 4) (pe_lst (pa_cons pe_str (pa_cons pe_str pa_nil))) (by rfl)) (pss_cons (ps_set (i := 8) sc.nd rfl (by first | exact Or.inl rfl | exact Or.inr rfl) (pe_cal C__law_draw (hr.mono (by first | decide | omega)) rfl pass0 (pa_cons (pv 0) (pa_cons (pv 1) pa_nil))))
  (pss_one (ps_ret (pe_ifExp (pt_cmpR op_eq (pv 4) pe_str (nomark _)) (pe_tup (pa_cons pe_str (pa_cons (pv 8) (pa_cons (pv 6) pa_nil)))) (pe_tup (pa_cons pe_str (pa_cons (pv 6) (pa_cons (pv 8) pa_nil)))))))) pss_nil)
  (pss_one (ps_ret (pe_ifExp (pt_cmpR (k_in_seq (K := K) rfl) (pv 4) (pe_lst (pa_cons pe_str (pa_cons pe_str pa_nil))) (by rfl)) (pe_tup (pa_cons (pv 4) (pa_cons (pv 5) pa_nil))) (pe_tup (pa_cons (pv 4) (pa_cons (pv 6) (pa_cons (pv 5) pa_nil))))))))))))))))), h.enter fun ds lh P hD => ?_⟩)
  obtain ⟨t, c, R, G, rfl, T0, hR, hG1, hG2, hk⟩ := hD
  simp
  refine D_pick_run T0 (by simp) (by simp) fun x hx h1 g1 => ?_
  refine D_draw_run g1.ok hG1 hG2 fun r hr h2 g2 => ?_
  refine D_draw_run g2.ok hG1 hG2 fun q hq h3 g3 => ?_
  refine D_pick_run g3.ok (by simp) (by simp) fun k hk' h4 g4 => ?_
  obtain ⟨k, rfl, hk1, hk2⟩ : ∃ k' : Int, k = .int k' ∧ 0 ≤ k' ∧ k' ≤ 5 := by
    simp at hk'
    rcases hk' with rfl | rfl | rfl | rfl | rfl | rfl <;> exact ⟨_, rfl, by omega, by omega⟩
  have g := ((g1.trans g2).trans g3).trans g4
  have fin : ∀ d h5, OpP R G d → TapeGo t c h4 h5 → P d h5 := fun d h5 hd g5 => hk d hd h5 (g.trans g5)
  clear hk hk' g1 g2 g3
  simp at hx
  have T4 := g.ok
  have rr : (0 : Int) ≤ (r : Nat) ∧ ((r : Nat) : Int) < (G : Nat) := ⟨by omega, by omega⟩
  have qq : (0 : Int) ≤ (q : Nat) ∧ ((q : Nat) : Int) < (G : Nat) := ⟨by omega, by omega⟩
  have kk : 0 ≤ k ∧ k ≤ 1000000000 := ⟨hk1, by omega⟩
  have f_put : D_pick [rf t, .list [.int 1, .int 2, .int 3, .int 2, .int 1, .int 4, .int 9]] h4 fun d h1 => P (.tuple [.str "put", .int (r : Nat), d]) h1 :=
    D_pick_run T4 (by simp) (by simp) fun d hd h5 g5 => by
      obtain ⟨z, rfl, z1, z2⟩ : ∃ z : Int, d = .int z ∧ 1 ≤ z ∧ z ≤ 1000000000 := by
        simp at hd
        rcases hd with rfl | rfl | rfl | rfl | rfl | rfl | rfl <;> exact ⟨_, rfl, by omega, by omega⟩
      exact fin _ _ ⟨"put", [(r : Nat), z], rfl, by simp, by decide +kernel, op_put rr ⟨z1, z2⟩⟩ g5
  have f_get : P (.tuple [.str "get", .int (r : Nat), .int k]) h4 := fin _ _ ⟨"get", [(r : Nat), k], rfl, by simp, by decide +kernel, op_get rr kk⟩ (TapeGo.refl T4)
  rcases hx with rfl | rfl | rfl | rfl | rfl | rfl | rfl | rfl | rfl | rfl | rfl | rfl | rfl | rfl
  · simpa using f_put
  · simp
    refine D_pick_run T4 (by simp) (by simp) fun d hd h5 g5 => ?_
    obtain ⟨z, rfl, z1⟩ : ∃ z : Int, d = .int z ∧ absI z < 1000000000000000000 := by
      simp at hd
      rcases hd with rfl | rfl | rfl | rfl | rfl | rfl | rfl <;> exact ⟨_, rfl, by decide⟩
    exact fin _ _ ⟨"set", [(r : Nat), k, z], rfl, by simp, by decide +kernel, op_set rr kk z1⟩ g5
  · simp; exact fin _ _ ⟨"store", [(r : Nat), k, (q : Nat)], rfl, by simp, by decide +kernel, op_store rr kk qq⟩ (TapeGo.refl T4)
  · simp; exact fin _ _ ⟨"load", [(q : Nat), (r : Nat), k], rfl, by simp, by decide +kernel, op_load qq rr kk⟩ (TapeGo.refl T4)
  · simpa using f_put
  · simp
    refine wCond.p (fun _ => f_get) fun hR0 => D_draw_run T4 (by omega) hR fun i hi h5 g5 => ?_
    exact fin _ _ ⟨"root", [(i : Nat), (q : Nat)], rfl, by simp, by decide +kernel, op_root ⟨by omega, by omega⟩ qq⟩ g5
  · simp
    refine wCond.p (fun _ => f_get) fun hR0 => D_draw_run T4 (by omega) hR fun i hi h5 g5 => ?_
    exact fin _ _ ⟨"take", [(q : Nat), (i : Nat)], rfl, by simp, by decide +kernel, op_take qq ⟨by omega, by omega⟩⟩ g5
  · simpa using f_get
  · simpa using f_put
  · simp; exact fin _ _ ⟨"copy", [(q : Nat), (r : Nat)], rfl, by simp, by decide +kernel, op_copy qq rr⟩ (TapeGo.refl T4)
  · simp; exact fin _ _ ⟨"store", [(r : Nat), k, (q : Nat)], rfl, by simp, by decide +kernel, op_store rr kk qq⟩ (TapeGo.refl T4)
  · simp; exact fin _ _ ⟨"drop", [(r : Nat)], rfl, by simp, by decide +kernel, op_drop rr⟩ (TapeGo.refl T4)
  · simp; exact fin _ _ ⟨"same", [(q : Nat), (r : Nat)], rfl, by simp, by decide +kernel, op_same qq rr⟩ (TapeGo.refl T4)
  · simp; exact fin _ _ ⟨"size", [(r : Nat)], rfl, by simp, by decide +kernel, op_size rr⟩ (TapeGo.refl T4)
end
end K96
set_option Elab.async false
set_option linter.all false
set_option maxRecDepth 100000
set_option maxHeartbeats 4000000
set_option synthInstance.maxHeartbeats 1000000
set_option synthInstance.maxSize 1000000
namespace K96
open PySem PySem.Spec PyProof.Rows L2 Evl Pd Wl
abbrev eSk (a b R G e : Int) : PyData := .tuple [.int a, .int b, .int R, .int G, .int e]
theorem isTst_succK (cnt : Int) (m : Nat) (wd : Str) (rest : List PyData) : isTst cnt (m + 1) (.tuple (.str wd :: rest)) = (if wd = "answer" then (match rest with | [.str u] => decide (u ∈ answerW) | _ => false)
      else if wd = "true" then rest.isEmpty
      else if wd = "not" then (match rest with | [y] => isTst cnt m y | _ => false)
      else decide (wd ∈ (["less", "is"] : List Str)) && (match rest with | [a, b] => isIndex cnt a && isNum b | _ => false)) := by first | rfl | (unfold isTst; rfl)
theorem isTst_z {cnt : Int} {x : PyData} : isTst cnt 0 x = false := by rw [isTst]; simp
theorem isTst_mono {cnt : Int} : ∀ {n m : Nat} {x : PyData}, n ≤ m → isTst cnt n x = true → isTst cnt m x = true
  | 0, m, x, _, h => by rw [isTst_z] at h; cases h
  | n + 1, m, x, hm, h => by
    obtain ⟨m, rfl⟩ : ∃ m', m = m' + 1 := ⟨m - 1, by omega⟩
    by_cases hx : ∃ w ds, x = .tuple (.str w :: ds)
    · obtain ⟨w, ds, rfl⟩ := hx
      rw [isTst_succK] at h ⊢
      by_cases h1 : w = "answer"
      · rw [if_pos h1] at h ⊢; exact h
      rw [if_neg h1] at h ⊢
      by_cases h2 : w = "true"
      · rw [if_pos h2] at h ⊢; exact h
      rw [if_neg h2] at h ⊢
      by_cases h3 : w = "not"
      · rw [if_pos h3] at h ⊢
        rcases ds with _ | ⟨y, _ | ⟨z, l⟩⟩
        · exact h
        · exact isTst_mono (by omega) h
        · exact h
      rw [if_neg h3] at h ⊢; exact h
    · unfold isTst at h
      split at h
      · exact absurd ⟨_, _, rfl⟩ hx
      · cases h
def D_lshape (ds : List PyData) (h : Lh) (P : Wv) : Prop := ∃ t c : Addr, ds = [rf t] ∧ TapeOk t c h ∧ ∀ (a b : Int) (R G : Nat) (e : Int), R < 3 → 1 ≤ G → G ≤ 3 → ∀ h', TapeGo t c h h' → P (eSk a b (R : Nat) (G : Nat) e) h'
def TestP (cnt : Int) (n : Nat) (d : PyData) : Prop := isTst cnt (n + 1) d = true ∧ Dm 5 (n + 1) d
def D_ltest (n : Nat) (ds : List PyData) (h : Lh) (P : Wv) : Prop := ∃ (t c : Addr) (cnt dep : Nat), ds = [rf t, .int (cnt : Nat), .int (dep : Nat)] ∧ TapeOk t c h ∧ cnt ≤ 100 ∧ dep ≤ n ∧ ∀ d, TestP (cnt : Nat) dep d → ∀ h', TapeGo t c h h' → P d h'
theorem strOk_ans : ∀ s ∈ (["ok", "none", "range", "full", "value", "same", "size", "ok"] : List Str), s ∈ answerW ∧ PyData.strOk s = true := by decide +kernel
theorem isIndex_nat {n r : Nat} (h : r < n) : isIndex (n : Nat) (.int (r : Nat)) = true := by
  simp [isIndex]; omega
section
variable {P : Program} {w : World} {K : PySem.W.Frag} {mg : Str → Option Value} {base : Heap}
theorem cal__law_shape (S : Src K mg "_law_shape" st__law_shape ["tape"]) (T : Txt K mg) (C__law_draw : Cal P w K mg base CX0 1 "_law_draw" ["tape", "many"] (SpW K D_draw)) : Cal P w K mg base CX0 2 "_law_shape" ["tape"] (SpW K D_lshape) := by
  have sc := sc__law_shape
  refine S.cal (k := 1) sc (SpW.len fun ds h P z => by obtain ⟨_, _, rfl, _⟩ := z; rfl) (fun f cdv A outer s H vs Q E hr h => ⟨_, (pss_one (ps_ret (pe_tup (pa_cons (pe_op op_add pe_int (pe_cal C__law_draw (hr.mono (by first | decide | omega)) rfl pass0 (pa_cons (pv 0) (pa_cons pe_int pa_nil)))) (pa_cons (pe_op op_add pe_int (pe_cal C__law_draw (hr.mono (by first | decide | omega)) rfl pass0 (pa_cons (pv 0) (pa_cons pe_int pa_nil)))) (pa_cons (pe_cal C__law_draw (hr.mono (by first | decide | omega)) rfl pass0 (pa_cons (pv 0) (pa_cons pe_int pa_nil))) (pa_cons (pe_op op_add pe_int (pe_cal C__law_draw (hr.mono (by first | decide | omega)) rfl pass0 (pa_cons (pv 0) (pa_cons pe_int pa_nil)))) (pa_cons (pe_op op_add pe_int (pe_cal C__law_draw (hr.mono (by first | decide | omega)) rfl pass0 (pa_cons (pv 0) (pa_cons pe_int pa_nil)))) pa_nil)))))))), h.enter fun ds lh P hD => ?_⟩)
  obtain ⟨t, c, rfl, T0, hk⟩ := hD
  simp
  refine D_draw_run T0 (m := 9) (by omega) (by omega) fun a ha h1 g1 => ?_
  simp
  refine D_draw_run g1.ok (m := 4) (by omega) (by omega) fun b hb h2 g2 => ?_
  simp
  refine D_draw_run g2.ok (m := 3) (by omega) (by omega) fun R hR h3 g3 => ?_
  refine D_draw_run g3.ok (m := 3) (by omega) (by omega) fun G hG h4 g4 => ?_
  simp
  refine D_draw_run g4.ok (m := 3) (by omega) (by omega) fun e he h5 g5 => ?_
  simp
  have e1 : (1 + (G : Int)) = ((1 + G : Nat) : Int) := by omega
  rw [e1]
  exact hk _ _ R (1 + G) _ hR (by omega) (by omega) h5 ((((g1.trans g2).trans g3).trans g4).trans g5)
theorem ltest_step {k n : Nat} {D' : List PyData → Lh → Wv → Prop} (S : Src K mg "_law_test" st__law_test ["tape", "count", "depth"]) (T : Txt K mg) (C__law_draw : Cal P w K mg base CX0 1 "_law_draw" ["tape", "many"] (SpW K D_draw)) (C__law_pick : Cal P w K mg base CX0 2 "_law_pick" ["tape", "row"] (SpW K D_pick))
    (hk2 : 2 ≤ k) (C__law_test : Cal P w K mg base CX0 k "_law_test" ["tape", "count", "depth"] (SpW K D')) (hn : ∀ m, n = m + 1 → D' = D_ltest m) : Cal P w K mg base CX0 (k + 1) "_law_test" ["tape", "count", "depth"] (SpW K (D_ltest n)) := by
  have sc := sc__law_test
  refine S.cal (k := k) sc (SpW.len fun ds h P z => by obtain ⟨_, _, _, _, rfl, _⟩ := z; rfl) (fun f cdv A outer s H vs Q E hr h => ⟨_, (pss_cons (ps_set (i := 3) sc.nd rfl (by first | exact Or.inl rfl | exact Or.inr rfl) (pe_cal C__law_pick (hr.mono (by first | decide | omega)) rfl pass0 (pa_cons (pv 0) (pa_cons (pe_lst (pa_cons pe_str (pa_cons pe_str (pa_cons pe_str (pa_cons pe_str (pa_cons pe_str (pa_cons pe_str pa_nil))))))) pa_nil))))
  (pss_cons (ps_if (PW.pt (pw_and (pt_cmpR op_eq (pv 3) pe_str (nomark _)) (pw_and1 (pt_cmpR op_gt (pv 2) pe_int (nomark _))))) (pss_one (ps_ret (pe_tup (pa_cons pe_str (pa_cons (pe_cal C__law_test (hr.mono (by first | decide | omega)) rfl pass0 (pa_cons (pv 0) (pa_cons (pv 1) (pa_cons (pe_op op_sub (pv 2) pe_int) pa_nil)))) pa_nil))))) pss_nil)
  (pss_cons (ps_if (PW.pt (pw_and (pt_cmpR (k_in_seq (K := K) rfl) (pv 3) (pe_lst (pa_cons pe_str (pa_cons pe_str pa_nil))) (by rfl)) (pw_and1 (pt_cmpR op_gt (pv 1) pe_int (nomark _))))) (pss_one (ps_ret (pe_tup (pa_cons (pv 3) (pa_cons (pe_cal C__law_draw (hr.mono (by first | decide | omega)) rfl pass0 (pa_cons (pv 0) (pa_cons (pv 1) pa_nil))) (pa_cons (pe_cal C__law_pick (hr.mono (by first | decide | omega)) rfl pass0 (pa_cons (pv 0) (pa_cons (pe_lst (pa_cons pe_int (pa_cons pe_int (pa_cons pe_int (pa_cons pe_int (pa_cons (pe_un un_neg pe_int) (pa_cons (pe_op op_sub (pe_op op_pow pe_int pe_int) pe_int) pa_nil))))))) pa_nil))) pa_nil)))))) pss_nil)
  (pss_cons (ps_if (pt_cmpR op_eq (pv 3) pe_str (nomark _)) (pss_one (ps_ret (pe_tup (pa_cons pe_str pa_nil)))) pss_nil)
  (pss_one (ps_ret (pe_tup (pa_cons pe_str (pa_cons (pe_cal C__law_pick (hr.mono (by first | decide | omega)) rfl pass0 (pa_cons (pv 0) (pa_cons (pe_lst (pa_cons pe_str (pa_cons pe_str (pa_cons pe_str (pa_cons pe_str (pa_cons pe_str (pa_cons pe_str (pa_cons pe_str (pa_cons pe_str pa_nil))))))))) pa_nil))) pa_nil))))))))), h.enter fun ds lh P hD => ?_⟩)
  obtain ⟨t, c, cnt, dep, rfl, T0, hc, hle, hk⟩ := hD
  simp
  refine D_pick_run T0 (by simp) (by simp) fun x hx h1 g1 => ?_
  have fin : ∀ d, TestP (cnt : Nat) dep d → ∀ h', TapeGo t c h1 h' → P d h' := fun d hd h' g => hk d hd h' (g1.trans g)
  have f_ans : D_pick [rf t, .list [.str "ok", .str "none", .str "range", .str "full", .str "value", .str "same", .str "size", .str "ok"]] h1 fun d h2 => P (.tuple [.str "answer", d]) h2 :=
    D_pick_run g1.ok (by simp) (by simp) fun d hd h2 g2 => by
      obtain ⟨z, hz, rfl⟩ : ∃ z : Str, z ∈ (["ok", "none", "range", "full", "value", "same", "size", "ok"] : List Str) ∧ d = .str z := by
        simp at hd
        rcases hd with rfl | rfl | rfl | rfl | rfl | rfl | rfl | rfl <;> exact ⟨_, by simp, rfl⟩
      refine fin _ ⟨?_, ?_⟩ h2 g2
      · rw [isTst_succK, if_pos rfl]; exact decide_eq_true (strOk_ans z hz).1
      · exact .tup _ _ (by simp) fun d hd => by
          simp at hd
          rcases hd with rfl | rfl
          · exact .str _ _ (by decide +kernel)
          · exact .str _ _ (strOk_ans z hz).2
  have f_num : ∀ kd : Str, kd ∈ (["less", "is"] : List Str) → 0 < cnt → D_draw [rf t, .int (cnt : Nat)] h1 fun d h2 => D_pick [rf t, .list [.int 0, .int 1, .int 2, .int 3, .int (-1), .int 999999999999999999]] h2 fun e h3 => P (.tuple [.str kd, d, e]) h3 := fun kd hkd h0 =>
    D_draw_run g1.ok (by omega) (by omega) fun r hr h2 g2 => D_pick_run g2.ok (by simp) (by simp) fun d hd h3 g3 => by
      obtain ⟨z, rfl, z1⟩ : ∃ z : Int, d = .int z ∧ absI z < 1000000000000000000 := by
        simp at hd
        rcases hd with rfl | rfl | rfl | rfl | rfl | rfl <;> exact ⟨_, rfl, by decide⟩
      have nd : kd ≠ "answer" ∧ kd ≠ "true" ∧ kd ≠ "not" ∧ PyData.strOk kd = true := by
        simp at hkd
        rcases hkd with rfl | rfl <;> exact ⟨by simp, by simp, by simp, by decide +kernel⟩
      refine fin _ ⟨?_, ?_⟩ h3 (g2.trans g3)
      · rw [isTst_succK, if_neg nd.1, if_neg nd.2.1, if_neg nd.2.2.1, decide_eq_true hkd]
        simp [isIndex_nat hr, isNum, z1]
      · exact .tup _ _ (by simp) fun d hd => by
          simp at hd
          rcases hd with rfl | rfl | rfl
          · exact .str _ _ nd.2.2.2
          · exact .int _ _
          · exact .int _ _
  simp at hx
  have f_an' : TapeOk t c h1 := g1.ok
  rcases hx with rfl | rfl | rfl | rfl | rfl | rfl
  · simpa using f_ans
  · simp
    refine fin _ ⟨by rw [isTst_succK]; simp, .tup _ _ (by simp) fun d hd => ?_⟩ _ (TapeGo.refl g1.ok)
    cases List.mem_singleton.mp hd
    exact .str _ _ (by decide +kernel)
  · simp
    exact wCond.p (fun h0 => f_num "less" (by simp) h0) fun _ => f_ans
  · simp
    exact wCond.p (fun h0 => f_num "is" (by simp) h0) fun _ => f_ans
  · simp
    refine wCond.p (fun h0 => ?_) fun _ => f_ans
    obtain ⟨n', rfl⟩ : ∃ n', n = n' + 1 := ⟨n - 1, by omega⟩
    have := hn n' rfl
    subst this
    refine ⟨t, c, cnt, dep - 1, by congr 4; omega, g1.ok, hc, by omega, fun d hd h2 g2 => fin _ ⟨?_, ?_⟩ _ g2⟩
    · rw [isTst_succK]
      have e1 : dep - 1 + 1 = dep := by omega
      have := hd.1
      rw [e1] at this
      simp [this]
    · have e1 : dep - 1 + 1 = dep := by omega
      have := hd.2
      rw [e1] at this
      refine .tup _ _ (by simp) fun d' hd' => ?_
      simp at hd'
      rcases hd' with rfl | rfl
      · exact .str _ _ (by decide +kernel)
      · exact this
  · simpa using f_ans
theorem cal_lnone {x : Str} {st : Stmt} {ps : List Str} {CX : CXT} {k : Nat} (S : Src K mg x st ps) : Cal P w K mg base CX k x ps (SpW K fun _ _ _ => False) := by
  obtain ⟨f, fd, hm, hF, hb⟩ := S.ex
  exact ⟨f, fd, hm, hF.kp, hb, ⟨fun _ _ _ _ ⟨_, _, _, _, _, _, _, h, _⟩ => h.elim, fun _ _ _ _ _ _ _ _ _ _ _ _ _ ⟨_, _, _, _, _, _, _, h, _⟩ => h.elim⟩⟩
theorem cal__law_test (S : Src K mg "_law_test" st__law_test ["tape", "count", "depth"]) (T : Txt K mg) (C__law_draw : Cal P w K mg base CX0 1 "_law_draw" ["tape", "many"] (SpW K D_draw)) (C__law_pick : Cal P w K mg base CX0 2 "_law_pick" ["tape", "row"] (SpW K D_pick)) : ∀ n, Cal P w K mg base CX0 (n + 3) "_law_test" ["tape", "count", "depth"] (SpW K (D_ltest n))
  | 0 => ltest_step S T C__law_draw C__law_pick (k := 2) (by omega) (cal_lnone S) (fun m h => by omega)
  | n + 1 => ltest_step S T C__law_draw C__law_pick (k := n + 3) (by omega) (cal__law_test S T C__law_draw C__law_pick n) (fun m h => by
      have : n = m := by omega
      rw [this])
/-- a drawn do -/
def DoP (cnt R G : Int) (d : PyData) : Prop := ∃ o, d = .tuple [.str "do", o] ∧ isDo cnt R G o = true ∧ Dm 10 2 o
def D_ldo (ds : List PyData) (h : Lh) (P : Wv) : Prop := ∃ (t c : Addr) (a b : Int) (R G : Nat) (e : Int) (cnt : Nat), ds = [rf t, eSk a b (R : Nat) (G : Nat) e, .int (cnt : Nat)] ∧ TapeOk t c h ∧ R ≤ 1000 ∧ 1 ≤ G ∧ G ≤ 1000 ∧ cnt ≤ 100 ∧ ∀ d, DoP (cnt : Nat) (R : Nat) (G : Nat) d → ∀ h', TapeGo t c h h' → P d h'
theorem fill_ints {cnt : Int} {w : Str} {ns : List Int} : fillZ cnt (.tuple (.str w :: ns.map .int)) = .tuple (.str w :: ns.map .int) := fill_same fun b c i e => by
  rcases ns with _ | ⟨x, _ | ⟨y, _ | ⟨z, _ | ⟨u, l⟩⟩⟩⟩ <;> simp at e
theorem cal__law_do_row (S : Src K mg "_law_do_row" st__law_do_row ["tape", "shape", "count"]) (T : Txt K mg) (C__law_draw : Cal P w K mg base CX0 1 "_law_draw" ["tape", "many"] (SpW K D_draw)) (C__law_operation : Cal P w K mg base CX0 3 "_law_operation" ["tape", "roots", "registers"] (SpW K D_lop)) : Cal P w K mg base CX0 4 "_law_do_row" ["tape", "shape", "count"] (SpW K D_ldo) := by
  have sc := sc__law_do_row
  refine S.cal (k := 3) sc (SpW.len fun ds h P z => by obtain ⟨_, _, _, _, _, _, _, _, rfl, _⟩ := z; rfl) (fun f cdv A outer s H vs Q E hr h => ⟨_, (pss_cons (ps_set (i := 3) sc.nd rfl (by first | exact Or.inl rfl | exact Or.inr rfl) (pe_cal C__law_operation (hr.mono (by first | decide | omega)) rfl pass0 (pa_cons (pv 0) (pa_cons (pe_ix (k_ix_tup (K := K) rfl) (pv 1) pe_int (fun _ _ => rfl)) (pa_cons (pe_ix (k_ix_tup (K := K) rfl) (pv 1) pe_int (fun _ _ => rfl)) pa_nil)))))
  (pss_cons (ps_if (PW.pt (pw_and (pt_cmpR op_eq (pe_ix (k_ix_tup (K := K) rfl) (pv 3) pe_int (fun _ _ => rfl)) pe_str (nomark _)) (pw_and (pt_cmpR op_gt (pv 2) pe_int (nomark _)) (pw_and1 (pt_cmpR op_eq (pe_cal C__law_draw (hr.mono (by first | decide | omega)) rfl pass0 (pa_cons (pv 0) (pa_cons pe_int pa_nil))) pe_int (nomark _)))))) (pss_one (ps_set (i := 3) sc.nd rfl (by first | exact Or.inl rfl | exact Or.inr rfl) (pe_op (k_catA (K := K) rfl) (pe_slice (k_sl_tupA (K := K) rfl) (pv 3) po_none (po_some pe_int)) (pe_tup (pa_cons (pe_tup (pa_cons pe_str (pa_cons (pe_cal C__law_draw (hr.mono (by first | decide | omega)) rfl pass0 (pa_cons (pv 0) (pa_cons (pv 2) pa_nil))) pa_nil))) pa_nil))))) pss_nil)
  (pss_one (ps_ret (pe_tup (pa_cons pe_str (pa_cons (pv 3) pa_nil))))))), h.enter fun ds lh P hD => ?_⟩)
  obtain ⟨t, c, a, b, R, G, e, cnt, rfl, T0, hR, hG1, hG2, hc, hk⟩ := hD
  simp
  refine ⟨t, c, R, G, rfl, T0, hR, hG1, hG2, fun d hd h1 g1 => ?_⟩
  obtain ⟨wd, ns, rfl, hl, hok, hop⟩ := hd
  have f_same : P (.tuple [.str "do", .tuple (.str wd :: ns.map .int)]) h1 := hk _ ⟨_, rfl, by unfold isDo; rw [fill_ints]; exact hop, .tup _ _ (by simp; omega) fun d hd => by
    rcases List.mem_cons.mp hd with rfl | hd
    · exact .str _ _ hok
    · obtain ⟨n, _, rfl⟩ := List.mem_map.mp hd; exact .int _ _⟩ _ g1
  simp
  refine wCond.i (fun hw => ?_) fun _ => f_same
  simp at hw
  obtain ⟨rfl, h0⟩ := hw
  refine D_draw_run g1.ok (m := 2) (by omega) (by omega) fun z hz h2 g2 => ?_
  simp
  refine wCond.p (fun _ => ?_) fun _ => hk _ ⟨_, rfl, by unfold isDo; rw [fill_ints]; exact hop, .tup _ _ (by simp; omega) fun d hd => by
    rcases List.mem_cons.mp hd with rfl | hd
    · exact .str _ _ hok
    · obtain ⟨n, _, rfl⟩ := List.mem_map.mp hd; exact .int _ _⟩ _ (g1.trans g2)
  refine D_draw_run g2.ok h0 (by omega) fun i hi h3 g3 => ⟨by omega, ?_⟩
  rw [isOp_eq _ _ "set" "rkn" _ (by decide +kernel), show ("rkn" : Str).cps.toList = [114, 107, 110] by decide +kernel, show ("rkn" : Str).cps.size = 3 by decide +kernel] at hop
  rcases ns with _ | ⟨r, _ | ⟨k, _ | ⟨n, _ | ⟨u, l⟩⟩⟩⟩
  · simp at hop
  · simp at hop
  · simp at hop
  · simp at hop
    refine hk _ ⟨_, rfl, ?_, ?_⟩ _ ((g1.trans g2).trans g3)
    · unfold isDo
      simp
      rw [fill_set (isIndex_nat hi), isOp_eq _ _ "set" "rkn" _ (by decide +kernel), show ("rkn" : Str).cps.toList = [114, 107, 110] by decide +kernel, show ("rkn" : Str).cps.size = 3 by decide +kernel]
      have p0 : kpart (R : Nat) (G : Nat) (110, .int 0) = true := part_n (by decide)
      simp [hop.1, hop.2.1, p0]
    · refine .tup _ _ (by simp) fun d hd => ?_
      simp at hd
      rcases hd with rfl | rfl | rfl | rfl
      · exact .str _ _ hok
      · exact .int _ _
      · exact .int _ _
      · refine .tup _ _ (by simp) fun d hd => ?_
        simp at hd
        rcases hd with rfl | rfl
        · exact .str _ _ (by decide +kernel)
        · exact .int _ _
  · simp at hop
theorem isStm_eqK (cnt R G : Int) (tst blk : PyData → Bool) (wd : Str) (rest : List PyData) : isStm cnt R G tst blk (.tuple (.str wd :: rest)) = (if wd = "do" then (match rest with | [o] => isDo cnt R G o | _ => false)
      else if wd = "add" then (match rest with | [a, b] => isIndex cnt a && isNum b | _ => false)
      else if wd = "keep" then (match rest with | [a] => isIndex cnt a | _ => false)
      else if wd = "while" then (match rest with | [t, b] => tst t && blk b | _ => false)
      else if wd = "if" then (match rest with | [t, a, b] => tst t && (blk a && blk b) | _ => false)
      else decide (wd = "stop") && rest.isEmpty) := rfl
/-- a drawn statement within blocks n deep -/
def StmP (cnt R G : Int) (n : Nat) (d : PyData) : Prop := (∀ m, n + 2 ≤ m → isStm cnt R G (isTst cnt (m + 1)) (isBlk cnt R G m) d = true) ∧ Dm 10 (2 * n + 5) d
def BlkP (cnt R G : Int) (n : Nat) (d : PyData) : Prop := ∃ ds, d = .tuple ds ∧ ds.length ≤ 6 ∧ ∀ s ∈ ds, StmP cnt R G n s
theorem BlkP.ok {cnt R G : Int} {n : Nat} {d : PyData} (h : BlkP cnt R G n d) : (∀ m, n + 3 ≤ m → isBlk cnt R G m d = true) ∧ Dm 10 (2 * n + 6) d := by
  obtain ⟨ds, rfl, hl, hs⟩ := h
  refine ⟨fun m hm => ?_, .tup _ _ (by omega) fun d hd => (hs d hd).2⟩
  obtain ⟨m, rfl⟩ : ∃ m', m = m' + 1 := ⟨m - 1, by omega⟩
  show ds.all (isStm cnt R G (isTst cnt (m + 1)) (isBlk cnt R G m)) = true
  exact List.all_eq_true.mpr fun d hd => (hs d hd).1 m (by omega)
theorem DoP.stm {cnt R G : Int} {n : Nat} {d : PyData} (h : DoP cnt R G d) : StmP cnt R G n d := by
  obtain ⟨o, rfl, ho, hd⟩ := h
  refine ⟨fun m hm => by rw [isStm_eqK, if_pos rfl]; exact ho, (Dm.tup (L := 10) (n := 2) [.str "do", o] (by simp) fun d hd' => ?_).le (Nat.le_refl _) (by omega)⟩
  simp at hd'
  rcases hd' with rfl | rfl
  · exact .str _ _ (by decide +kernel)
  · exact hd
theorem stm_while {cnt R G : Int} {n : Nat} {t b : PyData} (ht : TestP cnt 2 t) (hb : BlkP cnt R G n b) : StmP cnt R G (n + 1) (.tuple [.str "while", t, b]) := by
  refine ⟨fun m hm => ?_, .tup _ _ (by simp) fun d hd => ?_⟩
  · rw [isStm_eqK]
    simp [isTst_mono (show 2 + 1 ≤ m + 1 by omega) ht.1, hb.ok.1 m (by omega)]
  · simp at hd
    rcases hd with rfl | rfl | rfl
    · exact .str _ _ (by decide +kernel)
    · exact ht.2.le (by omega) (by omega)
    · exact hb.ok.2.le (Nat.le_refl _) (by omega)
theorem stm_if {cnt R G : Int} {n : Nat} {t a b : PyData} (ht : TestP cnt 2 t) (ha : BlkP cnt R G n a) (hb : BlkP cnt R G n b) : StmP cnt R G (n + 1) (.tuple [.str "if", t, a, b]) := by
  refine ⟨fun m hm => ?_, .tup _ _ (by simp) fun d hd => ?_⟩
  · rw [isStm_eqK]
    simp [isTst_mono (show 2 + 1 ≤ m + 1 by omega) ht.1, ha.ok.1 m (by omega), hb.ok.1 m (by omega)]
  · simp at hd
    rcases hd with rfl | rfl | rfl | rfl
    · exact .str _ _ (by decide +kernel)
    · exact ht.2.le (by omega) (by omega)
    · exact ha.ok.2.le (Nat.le_refl _) (by omega)
    · exact hb.ok.2.le (Nat.le_refl _) (by omega)
theorem stm_add {cnt R G : Int} {n : Nat} {i z : Int} (hi : isIndex cnt (.int i) = true) (hz : absI z < 1000000000000000000) : StmP cnt R G n (.tuple [.str "add", .int i, .int z]) := by
  refine ⟨fun m hm => ?_, (Dm.tup (L := 10) (n := 0) _ (by simp) fun d hd => ?_).le (Nat.le_refl _) (by omega)⟩
  · rw [isStm_eqK]
    simp [hi, isNum, hz]
  · simp at hd
    rcases hd with rfl | rfl | rfl
    · exact .str _ _ (by decide +kernel)
    · exact .int _ _
    · exact .int _ _
theorem stm_keep {cnt R G : Int} {n : Nat} {i : Int} (hi : isIndex cnt (.int i) = true) : StmP cnt R G n (.tuple [.str "keep", .int i]) := by
  refine ⟨fun m hm => ?_, (Dm.tup (L := 10) (n := 0) _ (by simp) fun d hd => ?_).le (Nat.le_refl _) (by omega)⟩
  · rw [isStm_eqK]
    simp [hi]
  · simp at hd
    rcases hd with rfl | rfl
    · exact .str _ _ (by decide +kernel)
    · exact .int _ _
theorem stm_stop {cnt R G : Int} {n : Nat} : StmP cnt R G n (.tuple [.str "stop"]) := by
  refine ⟨fun m hm => ?_, (Dm.tup (L := 10) (n := 0) _ (by simp) fun d hd => ?_).le (Nat.le_refl _) (by omega)⟩
  · rw [isStm_eqK]
    simp
  · simp at hd
    subst hd
    exact .str _ _ (by decide +kernel)
end
end K96
set_option Elab.async false
set_option linter.all false
set_option maxRecDepth 100000
set_option maxHeartbeats 4000000
set_option synthInstance.maxHeartbeats 1000000
set_option synthInstance.maxSize 1000000
namespace K96
open PySem PySem.Spec PyProof.Rows L2 Evl Pd Wl
section
variable {P : Program} {w : World} {K : PySem.W.Frag} {mg : Str → Option Value} {base : Heap}
def D_lblock (n : Nat) (ds : List PyData) (h : Lh) (P : Wv) : Prop := ∃ (t c : Addr) (a b : Int) (R G : Nat) (e : Int) (cnt dep many : Nat), ds = [rf t, eSk a b (R : Nat) (G : Nat) e, .int (cnt : Nat), .int (dep : Nat), .int (many : Nat)] ∧ TapeOk t c h ∧ R ≤ 1000 ∧ 1 ≤ G ∧ G ≤ 1000 ∧ cnt ≤ 100 ∧ dep ≤ n ∧ 1 ≤ many ∧ many ≤ 5 ∧
  ∀ d, (∃ ds, d = .tuple ds ∧ ds.length ≤ many ∧ ∀ s ∈ ds, StmP (cnt : Nat) (R : Nat) (G : Nat) dep s) → ∀ h', TapeGo t c h h' → P d h'
theorem lblock_step {k n : Nat} {D' : List PyData → Lh → Wv → Prop} (S : Src K mg "_law_block" st__law_block ["tape", "shape", "count", "depth", "many"]) (T : Txt K mg) (C__law_draw : Cal P w K mg base CX0 1 "_law_draw" ["tape", "many"] (SpW K D_draw)) (C__law_pick : Cal P w K mg base CX0 2 "_law_pick" ["tape", "row"] (SpW K D_pick))
    (C__law_test : Cal P w K mg base CX0 5 "_law_test" ["tape", "count", "depth"] (SpW K (D_ltest 2))) (C__law_do_row : Cal P w K mg base CX0 4 "_law_do_row" ["tape", "shape", "count"] (SpW K D_ldo))
    (hk2 : 5 ≤ k) (C__law_block : Cal P w K mg base CX0 k "_law_block" ["tape", "shape", "count", "depth", "many"] (SpW K D')) (hn : ∀ m, n = m + 1 → D' = D_lblock m) : Cal P w K mg base CX0 (k + 1) "_law_block" ["tape", "shape", "count", "depth", "many"] (SpW K (D_lblock n)) := by
  have sc := sc__law_block
  refine S.cal (k := k) sc (SpW.len fun ds h P z => by obtain ⟨_, _, _, _, _, _, _, _, _, _, rfl, _⟩ := z; rfl) (fun f cdv A outer s H vs Q E hr h => ⟨_, (pss_cons (ps_set (i := 5) sc.nd rfl (by first | exact Or.inl rfl | exact Or.inr rfl) (pe_ref (pe_lst pa_nil)))
  (pss_cons (ps_for PassesOwn.never rfl (pi_range1 (by rfl) T.n_range (pa_cons (pe_op op_add pe_int (pe_cal C__law_draw (hr.mono (by first | decide | omega)) rfl pass0 (pa_cons (pv 0) (pa_cons (pv 4) pa_nil)))) pa_nil)) (pg_name (i := 6) sc.nd rfl (by first | exact Or.inl rfl | exact Or.inr rfl)) (pss_cons (ps_set (i := 7) sc.nd rfl (by first | exact Or.inl rfl | exact Or.inr rfl) (pe_cal C__law_pick (hr.mono (by first | decide | omega)) rfl pass0 (pa_cons (pv 0) (pa_cons (pe_lst (pa_cons pe_str (pa_cons pe_str (pa_cons pe_str (pa_cons pe_str (pa_cons pe_str (pa_cons pe_str (pa_cons pe_str (pa_cons pe_str (pa_cons pe_str (pa_cons pe_str (pa_cons pe_str (pa_cons pe_str (pa_cons pe_str (pa_cons pe_str pa_nil))))))))))))))) pa_nil))))
  (pss_one (ps_if (PW.pt (pw_and (pt_cmpR (k_in_seq (K := K) rfl) (pv 7) (pe_lst (pa_cons pe_str (pa_cons pe_str pa_nil))) (by rfl)) (pw_and1 (pt_cmpR op_gt (pv 3) pe_int (nomark _))))) (pss_cons (ps_set (i := 8) sc.nd rfl (by first | exact Or.inl rfl | exact Or.inr rfl) (pe_cal C__law_test (hr.mono (by first | decide | omega)) rfl pass0 (pa_cons (pv 0) (pa_cons (pv 2) (pa_cons pe_int pa_nil)))))
  (pss_cons (ps_set (i := 9) sc.nd rfl (by first | exact Or.inl rfl | exact Or.inr rfl) (pe_cal C__law_block (hr.mono (by first | decide | omega)) rfl pass0 (pa_cons (pv 0) (pa_cons (pv 1) (pa_cons (pv 2) (pa_cons (pe_op op_sub (pv 3) pe_int) (pa_cons pe_int pa_nil)))))))
  (pss_one (ps_if (pt_cmpR op_eq (pv 7) pe_str (nomark _)) (pss_one (ps_expr (k_append (K := K) rfl (pv 5) (pa_cons (pe_tup (pa_cons pe_str (pa_cons (pv 8) (pa_cons (pe_op (k_catA (K := K) rfl) (pe_tup (pa_cons (pe_cal C__law_do_row (hr.mono (by first | decide | omega)) rfl pass0 (pa_cons (pv 0) (pa_cons (pv 1) (pa_cons (pv 2) pa_nil)))) pa_nil)) (pv 9)) pa_nil)))) pa_nil)))) (pss_one (ps_expr (k_append (K := K) rfl (pv 5) (pa_cons (pe_tup (pa_cons pe_str (pa_cons (pv 8) (pa_cons (pe_ifExp (pt_cmpR op_gt (pe_cal C__law_draw (hr.mono (by first | decide | omega)) rfl pass0 (pa_cons (pv 0) (pa_cons pe_int pa_nil))) pe_int (nomark _)) (pv 9) (pe_tup pa_nil)) (pa_cons (pe_cal C__law_block (hr.mono (by first | decide | omega)) rfl pass0 (pa_cons (pv 0) (pa_cons (pv 1) (pa_cons (pv 2) (pa_cons (pe_op op_sub (pv 3) pe_int) (pa_cons pe_int pa_nil)))))) pa_nil))))) pa_nil)))))))) (pss_one (ps_if (PW.pt (pw_and (pt_cmpR op_eq (pv 7) pe_str (nomark _)) (pw_and1 (pt_cmpR op_gt (pv 2) pe_int (nomark _))))) (pss_one (ps_expr (k_append (K := K) rfl (pv 5) (pa_cons (pe_tup (pa_cons pe_str (pa_cons (pe_cal C__law_draw (hr.mono (by first | decide | omega)) rfl pass0 (pa_cons (pv 0) (pa_cons (pv 2) pa_nil))) (pa_cons (pe_cal C__law_pick (hr.mono (by first | decide | omega)) rfl pass0 (pa_cons (pv 0) (pa_cons (pe_lst (pa_cons pe_int (pa_cons (pe_un un_neg pe_int) (pa_cons pe_int (pa_cons (pe_op op_sub (pe_op op_pow pe_int pe_int) pe_int) (pa_cons (pe_op op_sub pe_int (pe_op op_pow pe_int pe_int)) (pa_cons pe_int pa_nil))))))) pa_nil))) pa_nil)))) pa_nil)))) (pss_one (ps_if (PW.pt (pw_and (pt_cmpR op_eq (pv 7) pe_str (nomark _)) (pw_and1 (pt_cmpR op_gt (pv 2) pe_int (nomark _))))) (pss_one (ps_expr (k_append (K := K) rfl (pv 5) (pa_cons (pe_tup (pa_cons pe_str (pa_cons (pe_cal C__law_draw (hr.mono (by first | decide | omega)) rfl pass0 (pa_cons (pv 0) (pa_cons (pv 2) pa_nil))) pa_nil))) pa_nil)))) (pss_one (ps_if (PW.pt (pw_and (pt_cmpR op_eq (pv 7) pe_str (nomark _)) (pw_and1 (pt_cmpR op_eq (pe_cal C__law_draw (hr.mono (by first | decide | omega)) rfl pass0 (pa_cons (pv 0) (pa_cons pe_int pa_nil))) pe_int (nomark _))))) (pss_one (ps_expr (k_append (K := K) rfl (pv 5) (pa_cons (pe_tup (pa_cons pe_str pa_nil)) pa_nil)))) (pss_one (ps_expr (k_append (K := K) rfl (pv 5) (pa_cons (pe_cal C__law_do_row (hr.mono (by first | decide | omega)) rfl pass0 (pa_cons (pv 0) (pa_cons (pv 1) (pa_cons (pv 2) pa_nil)))) pa_nil))))))))))))))
  (pss_one (ps_ret (pe_callTy (k_tuple_of (K := K) rfl) (by rfl) T.n_tuple (by decide +kernel) (pa_cons (pv 5) pa_nil)))))), h.enter fun ds lh P hD => ?_⟩)
  obtain ⟨t, c, a, b, R, G, e, cnt, dep, many, rfl, T0, hR, hG1, hG2, hc, hle, hm1, hm2, hk⟩ := hD
  simp
  intro p hp0
  have g0 : TapeGo t c lh (up lh p (.lst [])) := TapeGo.ex T0 (up_ex hp0)
  have pt : p ≠ t := fun z => by obtain ⟨⟨o, e⟩, _⟩ := T0.has; rw [← z, hp0] at e; cases e
  have pc : p ≠ c := fun z => by obtain ⟨_, ⟨o, e⟩⟩ := T0.has; rw [← z, hp0] at e; cases e
  refine D_draw_run g0.ok hm1 (by omega) fun z hz h1 g1 => ⟨_, rfl, by omega, by omega, ?_⟩
  have hpl : h1 p = some (.lst []) := g1.fr p _ pt pc up_same
  have ez : (1 + (z : Int)) = ((1 + z : Nat) : Int) := by omega
  rw [ez]
  refine forL_run (fun ds ρ h => ∃ i acc o6 o7 o8 o9, ds = (rgD 0 ((1 + z : Nat) : Int)).drop i ∧ ρ = [some (rf t), some (eSk a b (R : Nat) (G : Nat) e), some (.int (cnt : Nat)), some (.int (dep : Nat)), some (.int (many : Nat)), some (rf p), o6, o7, o8, o9] ∧ TapeGo t c lh h ∧ h p = some (.lst acc) ∧ acc.length ≤ i ∧ i ≤ 1 + z ∧ ∀ s ∈ acc, StmP (cnt : Nat) (R : Nat) (G : Nat) dep s) ?_ ?_ ⟨0, [], _, _, _, _, rfl, rfl, g0.trans g1, hpl, Nat.le_refl _, by omega, by simp⟩
  · rintro d ds ρ h ⟨i, acc, o6, o7, o8, o9, e0, rfl, g, hpa, hal, hi, hacc⟩
    refine ⟨trivial, fun F hF => ?_⟩
    have hi' : i < 1 + z := by
      have := congrArg List.length e0
      simp [rgD_len] at this
      omega
    have hdr : (rgD 0 ((1 + z : Nat) : Int)).drop i = .int (i : Nat) :: (rgD 0 ((1 + z : Nat) : Int)).drop (i + 1) := by
      rw [List.drop_eq_getElem_cons (by rw [rgD_len]; omega)]
      congr 1
      simp [rgD]
    rw [hdr] at e0
    cases e0
    have hp_of : ∀ h2, TapeGo t c h h2 → h2 p = some (.lst acc) := fun h2 g => g.fr p _ pt pc hpa
    have push : ∀ d h2 o7 o8 o9, StmP (cnt : Nat) (R : Nat) (G : Nat) dep d → TapeGo t c h h2 → F [some (rf t), some (eSk a b (R : Nat) (G : Nat) e), some (.int (cnt : Nat)), some (.int (dep : Nat)), some (.int (many : Nat)), some (rf p), some (.int (i : Nat)), o7, o8, o9] (up h2 p (.lst (acc ++ [d]))) := fun d h2 o7 o8 o9 hd g2 =>
      hF _ _ ⟨i + 1, acc ++ [d], _, _, _, _, rfl, rfl, ⟨g2.ok.put pt pc, fun a o n1 n2 e => by
        rw [up_ne (fun z => by rw [z, hp0] at e; cases e)]
        exact g2.fr a o n1 n2 (g.fr a o n1 n2 e)⟩, up_same, by simp; omega, by omega, fun s hs => by
          rcases List.mem_append.mp hs with q | q
          · exact hacc s q
          · cases List.mem_singleton.mp q; exact hd⟩
    have f_do : ∀ h2 o7, TapeGo t c h h2 → D_ldo [rf t, eSk a b (R : Nat) (G : Nat) e, .int (cnt : Nat)] h2 fun d h1 => ∃ x, h1 p = some (LO.lst x) ∧ x.length < 100000 ∧ F [some (rf t), some (eSk a b (R : Nat) (G : Nat) e), some (.int (cnt : Nat)), some (.int (dep : Nat)), some (.int (many : Nat)), some (rf p), some (.int (i : Nat)), o7, o8, o9] (up h1 p (LO.lst (x ++ [d]))) := fun h2 o7 g2 =>
      ⟨t, c, a, b, R, G, e, cnt, rfl, g2.ok, hR, hG1, hG2, hc, fun d hd h3 g3 => ⟨acc, hp_of h3 (g2.trans g3), by omega, push d h3 _ _ _ hd.stm (g2.trans g3)⟩⟩
    simp
    refine D_pick_run g.ok (by simp) (by simp) fun x hx h2 g2 => ?_
    simp at hx
    have hp2 := hp_of h2 g2
    rcases hx with rfl | rfl | rfl | rfl | rfl | rfl | rfl | rfl | rfl | rfl | rfl | rfl | rfl | rfl
    · simp [hp2]; exact f_do h2 _ g2
    · simp [hp2]
      refine wCond.p (fun h0 => ?_) fun _ => f_do h2 _ g2
      obtain ⟨n', rfl⟩ : ∃ n', n = n' + 1 := ⟨n - 1, by omega⟩
      have := hn n' rfl
      subst this
      have ed : dep - 1 + 1 = dep := by omega
      have ei : ((dep : Int) - 1) = ((dep - 1 : Nat) : Int) := by omega
      refine ⟨t, c, cnt, 2, rfl, g2.ok, hc, Nat.le_refl _, fun d hd h3 g3 => ?_⟩
      rw [ei]
      refine ⟨t, c, a, b, R, G, e, cnt, dep - 1, 2, rfl, g3.ok, hR, hG1, hG2, hc, by omega, by omega, by omega, fun d1 hd1 h4 g4 => ?_⟩
      obtain ⟨ds1, rfl, hl1, hs1⟩ := hd1
      have g24 := (g2.trans g3).trans g4
      have hp4 := hp_of h4 g24
      simp [hp4]
      refine D_draw_run g4.ok (m := 5) (by omega) (by omega) fun r hr h5 g5 => ⟨_, rfl, ?_⟩
      have fif : ∀ es1 : List PyData, es1.length ≤ 2 → (∀ s ∈ es1, StmP (cnt : Nat) (R : Nat) (G : Nat) (dep - 1) s) → D_lblock n' [rf t, eSk a b (R : Nat) (G : Nat) e, .int (cnt : Nat), .int ((dep - 1 : Nat) : Int), .int 2] h5 fun d3 h6 => ∃ x, h6 p = some (LO.lst x) ∧ x.length < 100000 ∧ F [some (rf t), some (eSk a b (R : Nat) (G : Nat) e), some (.int (cnt : Nat)), some (.int (dep : Nat)), some (.int (many : Nat)), some (rf p), some (.int (i : Nat)), some (.str "if"), some d, some (.tuple ds1)] (up h6 p (LO.lst (x ++ [.tuple [.str "if", d, .tuple es1, d3]]))) := fun es1 hl2 hs2 =>
        ⟨t, c, a, b, R, G, e, cnt, dep - 1, 2, rfl, g5.ok, hR, hG1, hG2, hc, by omega, by omega, by omega, fun d3 hd3 h6 g6 => by
          obtain ⟨ds3, rfl, hl3, hs3⟩ := hd3
          have g26 := (g24.trans g5).trans g6
          refine ⟨acc, hp_of h6 g26, by omega, push _ h6 _ _ _ ?_ g26⟩
          have := stm_if (cnt := (cnt : Nat)) (R := (R : Nat)) (G := (G : Nat)) (n := dep - 1) hd (a := .tuple es1) (b := .tuple ds3) ⟨_, rfl, by omega, hs2⟩ ⟨_, rfl, by omega, hs3⟩
          rw [ed] at this
          exact this⟩
      exact wCond.i (fun _ => fif ds1 (by omega) hs1) fun _ => fif [] (by simp) (by simp)
    · simp [hp2]
      refine wCond.p (fun h0 => ?_) fun _ => f_do h2 _ g2
      obtain ⟨n', rfl⟩ : ∃ n', n = n' + 1 := ⟨n - 1, by omega⟩
      have := hn n' rfl
      subst this
      have ed : dep - 1 + 1 = dep := by omega
      have ei : ((dep : Int) - 1) = ((dep - 1 : Nat) : Int) := by omega
      refine ⟨t, c, cnt, 2, rfl, g2.ok, hc, Nat.le_refl _, fun d hd h3 g3 => ?_⟩
      rw [ei]
      refine ⟨t, c, a, b, R, G, e, cnt, dep - 1, 2, rfl, g3.ok, hR, hG1, hG2, hc, by omega, by omega, by omega, fun d1 hd1 h4 g4 => ?_⟩
      obtain ⟨ds1, rfl, hl1, hs1⟩ := hd1
      have g24 := (g2.trans g3).trans g4
      have hp4 := hp_of h4 g24
      refine ⟨⟨acc, by rw [hp4]⟩, t, c, a, b, R, G, e, cnt, rfl, g4.ok, hR, hG1, hG2, hc, fun d2 hd2 h5 g5 => ⟨ds1, rfl, by omega, acc, hp_of h5 (g24.trans g5), by omega, push _ h5 _ _ _ ?_ (g24.trans g5)⟩⟩
      have := stm_while (cnt := (cnt : Nat)) (R := (R : Nat)) (G := (G : Nat)) (n := dep - 1) hd (b := .tuple (d2 :: ds1)) ⟨_, rfl, by simp; omega, fun s hs => by
        rcases List.mem_cons.mp hs with rfl | hs
        · exact hd2.stm
        · exact hs1 s hs⟩
      rw [ed] at this
      exact this
    · simp [hp2]
      refine wCond.p (fun h0 => ?_) fun _ => f_do h2 _ g2
      refine D_draw_run g2.ok h0 (by omega) fun r hr h3 g3 => D_pick_run g3.ok (by simp) (by simp) fun d hd h4 g4 => ?_
      obtain ⟨y, rfl, y1⟩ : ∃ z : Int, d = .int z ∧ absI z < 1000000000000000000 := by
        simp at hd
        rcases hd with rfl | rfl | rfl | rfl | rfl | rfl <;> exact ⟨_, rfl, by decide⟩
      have gg := (g2.trans g3).trans g4
      exact ⟨acc, hp_of h4 gg, by omega, push _ h4 _ _ _ (stm_add (isIndex_nat hr) y1) gg⟩
    · simp [hp2]
      refine wCond.p (fun h0 => ?_) fun _ => f_do h2 _ g2
      refine D_draw_run g2.ok h0 (by omega) fun r hr h3 g3 => ?_
      exact ⟨acc, hp_of h3 (g2.trans g3), by omega, push _ h3 _ _ _ (stm_keep (isIndex_nat hr)) (g2.trans g3)⟩
    · simp [hp2]; exact f_do h2 _ g2
    · simp [hp2]
      refine wCond.p (fun h0 => ?_) fun _ => f_do h2 _ g2
      obtain ⟨n', rfl⟩ : ∃ n', n = n' + 1 := ⟨n - 1, by omega⟩
      have := hn n' rfl
      subst this
      have ed : dep - 1 + 1 = dep := by omega
      have ei : ((dep : Int) - 1) = ((dep - 1 : Nat) : Int) := by omega
      refine ⟨t, c, cnt, 2, rfl, g2.ok, hc, Nat.le_refl _, fun d hd h3 g3 => ?_⟩
      rw [ei]
      refine ⟨t, c, a, b, R, G, e, cnt, dep - 1, 2, rfl, g3.ok, hR, hG1, hG2, hc, by omega, by omega, by omega, fun d1 hd1 h4 g4 => ?_⟩
      obtain ⟨ds1, rfl, hl1, hs1⟩ := hd1
      have g24 := (g2.trans g3).trans g4
      have hp4 := hp_of h4 g24
      refine ⟨⟨acc, by rw [hp4]⟩, t, c, a, b, R, G, e, cnt, rfl, g4.ok, hR, hG1, hG2, hc, fun d2 hd2 h5 g5 => ⟨ds1, rfl, by omega, acc, hp_of h5 (g24.trans g5), by omega, push _ h5 _ _ _ ?_ (g24.trans g5)⟩⟩
      have := stm_while (cnt := (cnt : Nat)) (R := (R : Nat)) (G := (G : Nat)) (n := dep - 1) hd (b := .tuple (d2 :: ds1)) ⟨_, rfl, by simp; omega, fun s hs => by
        rcases List.mem_cons.mp hs with rfl | hs
        · exact hd2.stm
        · exact hs1 s hs⟩
      rw [ed] at this
      exact this
    · simp [hp2]
      refine wCond.p (fun h0 => ?_) fun _ => f_do h2 _ g2
      obtain ⟨n', rfl⟩ : ∃ n', n = n' + 1 := ⟨n - 1, by omega⟩
      have := hn n' rfl
      subst this
      have ed : dep - 1 + 1 = dep := by omega
      have ei : ((dep : Int) - 1) = ((dep - 1 : Nat) : Int) := by omega
      refine ⟨t, c, cnt, 2, rfl, g2.ok, hc, Nat.le_refl _, fun d hd h3 g3 => ?_⟩
      rw [ei]
      refine ⟨t, c, a, b, R, G, e, cnt, dep - 1, 2, rfl, g3.ok, hR, hG1, hG2, hc, by omega, by omega, by omega, fun d1 hd1 h4 g4 => ?_⟩
      obtain ⟨ds1, rfl, hl1, hs1⟩ := hd1
      have g24 := (g2.trans g3).trans g4
      have hp4 := hp_of h4 g24
      simp [hp4]
      refine D_draw_run g4.ok (m := 5) (by omega) (by omega) fun r hr h5 g5 => ⟨_, rfl, ?_⟩
      have fif : ∀ es1 : List PyData, es1.length ≤ 2 → (∀ s ∈ es1, StmP (cnt : Nat) (R : Nat) (G : Nat) (dep - 1) s) → D_lblock n' [rf t, eSk a b (R : Nat) (G : Nat) e, .int (cnt : Nat), .int ((dep - 1 : Nat) : Int), .int 2] h5 fun d3 h6 => ∃ x, h6 p = some (LO.lst x) ∧ x.length < 100000 ∧ F [some (rf t), some (eSk a b (R : Nat) (G : Nat) e), some (.int (cnt : Nat)), some (.int (dep : Nat)), some (.int (many : Nat)), some (rf p), some (.int (i : Nat)), some (.str "if"), some d, some (.tuple ds1)] (up h6 p (LO.lst (x ++ [.tuple [.str "if", d, .tuple es1, d3]]))) := fun es1 hl2 hs2 =>
        ⟨t, c, a, b, R, G, e, cnt, dep - 1, 2, rfl, g5.ok, hR, hG1, hG2, hc, by omega, by omega, by omega, fun d3 hd3 h6 g6 => by
          obtain ⟨ds3, rfl, hl3, hs3⟩ := hd3
          have g26 := (g24.trans g5).trans g6
          refine ⟨acc, hp_of h6 g26, by omega, push _ h6 _ _ _ ?_ g26⟩
          have := stm_if (cnt := (cnt : Nat)) (R := (R : Nat)) (G := (G : Nat)) (n := dep - 1) hd (a := .tuple es1) (b := .tuple ds3) ⟨_, rfl, by omega, hs2⟩ ⟨_, rfl, by omega, hs3⟩
          rw [ed] at this
          exact this⟩
      exact wCond.i (fun _ => fif ds1 (by omega) hs1) fun _ => fif [] (by simp) (by simp)
    · simp [hp2]
      refine wCond.p (fun h0 => ?_) fun _ => f_do h2 _ g2
      refine D_draw_run g2.ok h0 (by omega) fun r hr h3 g3 => D_pick_run g3.ok (by simp) (by simp) fun d hd h4 g4 => ?_
      obtain ⟨y, rfl, y1⟩ : ∃ z : Int, d = .int z ∧ absI z < 1000000000000000000 := by
        simp at hd
        rcases hd with rfl | rfl | rfl | rfl | rfl | rfl <;> exact ⟨_, rfl, by decide⟩
      have gg := (g2.trans g3).trans g4
      exact ⟨acc, hp_of h4 gg, by omega, push _ h4 _ _ _ (stm_add (isIndex_nat hr) y1) gg⟩
    · simp [hp2]
      refine D_draw_run g2.ok (m := 3) (by omega) (by omega) fun r hr h3 g3 => ?_
      have hp3 := hp_of h3 (g2.trans g3)
      simp [hp3]
      refine wCond.p (fun h0 => ?_) fun _ => f_do h3 _ (g2.trans g3)
      exact ⟨by omega, push _ h3 _ _ _ stm_stop (g2.trans g3)⟩
  · rintro ρ h ⟨i, acc, o6, o7, o8, o9, e0, rfl, g, hpa, hal, hi, hacc⟩
    refine ⟨trivial, ?_⟩
    simp [hpa]
    exact hk _ ⟨acc, rfl, by omega, hacc⟩ _ g
theorem cal__law_block (S : Src K mg "_law_block" st__law_block ["tape", "shape", "count", "depth", "many"]) (T : Txt K mg) (C__law_draw : Cal P w K mg base CX0 1 "_law_draw" ["tape", "many"] (SpW K D_draw)) (C__law_pick : Cal P w K mg base CX0 2 "_law_pick" ["tape", "row"] (SpW K D_pick))
    (C__law_test : Cal P w K mg base CX0 5 "_law_test" ["tape", "count", "depth"] (SpW K (D_ltest 2))) (C__law_do_row : Cal P w K mg base CX0 4 "_law_do_row" ["tape", "shape", "count"] (SpW K D_ldo)) : ∀ n, Cal P w K mg base CX0 (n + 6) "_law_block" ["tape", "shape", "count", "depth", "many"] (SpW K (D_lblock n))
  | 0 => lblock_step S T C__law_draw C__law_pick C__law_test C__law_do_row (k := 5) (by omega) (cal_lnone S) (fun m h => by omega)
  | n + 1 => lblock_step S T C__law_draw C__law_pick C__law_test C__law_do_row (k := n + 6) (by omega) (cal__law_block S T C__law_draw C__law_pick C__law_test C__law_do_row n) (fun m h => by
      have : n = m := by omega
      rw [this])
/-- a drawn teller -/
def TelP (R G : Int) (d : PyData) : Prop := ∃ (cnt : Nat) (b : PyData), d = .tuple [.int (cnt : Nat), b] ∧ cnt < 4 ∧ isTel R G d = true ∧ Dm 10 12 d ∧ ∃ ds, b = .tuple ds
def D_lteller (ds : List PyData) (h : Lh) (P : Wv) : Prop := ∃ (t c : Addr) (a b : Int) (R G : Nat) (e : Int), ds = [rf t, eSk a b (R : Nat) (G : Nat) e] ∧ TapeOk t c h ∧ R ≤ 1000 ∧ 1 ≤ G ∧ G ≤ 1000 ∧ ∀ d, TelP (R : Nat) (G : Nat) d → ∀ h', TapeGo t c h h' → P d h'
theorem cal__law_teller (S : Src K mg "_law_teller" st__law_teller ["tape", "shape"]) (T : Txt K mg) (C__law_draw : Cal P w K mg base CX0 1 "_law_draw" ["tape", "many"] (SpW K D_draw)) (C__law_block : Cal P w K mg base CX0 8 "_law_block" ["tape", "shape", "count", "depth", "many"] (SpW K (D_lblock 2))) : Cal P w K mg base CX0 9 "_law_teller" ["tape", "shape"] (SpW K D_lteller) := by
  have sc := sc__law_teller
  refine S.cal (k := 8) sc (SpW.len fun ds h P z => by obtain ⟨_, _, _, _, _, _, _, rfl, _⟩ := z; rfl) (fun f cdv A outer s H vs Q E hr h => ⟨_, (pss_cons (ps_set (i := 2) sc.nd rfl (by first | exact Or.inl rfl | exact Or.inr rfl) (pe_cal C__law_draw (hr.mono (by first | decide | omega)) rfl pass0 (pa_cons (pv 0) (pa_cons pe_int pa_nil))))
  (pss_one (ps_ret (pe_tup (pa_cons (pv 2) (pa_cons (pe_cal C__law_block (hr.mono (by first | decide | omega)) rfl pass0 (pa_cons (pv 0) (pa_cons (pv 1) (pa_cons (pv 2) (pa_cons pe_int (pa_cons pe_int pa_nil)))))) pa_nil)))))), h.enter fun ds lh P hD => ?_⟩)
  obtain ⟨t, c, a, b, R, G, e, rfl, T0, hR, hG1, hG2, hk⟩ := hD
  simp
  refine D_draw_run T0 (m := 4) (by omega) (by omega) fun cnt hc h1 g1 => ?_
  refine ⟨t, c, a, b, R, G, e, cnt, 2, 5, rfl, g1.ok, hR, hG1, hG2, by omega, by omega, by omega, by omega, fun d hd h2 g2 => ?_⟩
  obtain ⟨ds, rfl, hl, hs⟩ := hd
  have B : BlkP (cnt : Nat) (R : Nat) (G : Nat) 2 (.tuple ds) := ⟨ds, rfl, by omega, hs⟩
  refine hk _ ⟨cnt, .tuple ds, rfl, hc, ?_, ?_, ds, rfl⟩ h2 (g1.trans g2)
  · show (decide (0 ≤ ((cnt : Nat) : Int)) && decide (((cnt : Nat) : Int) ≤ 100) && isBlk (cnt : Nat) (R : Nat) (G : Nat) 21 (.tuple ds)) = true
    rw [decide_eq_true (by omega : (0 : Int) ≤ cnt), decide_eq_true (by omega : (cnt : Int) ≤ 100), B.ok.1 21 (by omega)]; rfl
  · refine .tup _ _ (by simp) fun d hd => ?_
    simp at hd
    rcases hd with rfl | rfl
    · exact .int _ _
    · exact B.ok.2.le (Nat.le_refl _) (by omega)
end
end K96
set_option Elab.async false
set_option linter.all false
set_option maxRecDepth 100000
set_option maxHeartbeats 4000000
set_option synthInstance.maxHeartbeats 1000000
set_option synthInstance.maxSize 1000000
namespace K96
open PySem PySem.Spec PyProof.Rows L2 Evl Pd Wl
def dmB (L : Nat) : Nat → PyData → Bool
  | _, .none => true
  | _, .bool _ => true
  | _, .int _ => true
  | _, .str s => PyData.strOk s
  | n + 1, .tuple ds => decide (ds.length ≤ L) && ds.all (dmB L n)
  | n + 1, .list ds => decide (ds.length ≤ L) && ds.all (dmB L n)
  | _, _ => false
theorem dmB_ok {L : Nat} : ∀ (n : Nat) (d : PyData), dmB L n d = true → Dm L n d
  | n, .none, _ => .non n
  | n, .bool _, _ => .bool n _
  | n, .int _, _ => .int n _
  | n, .str s, h => .str n s (by unfold dmB at h; exact h)
  | 0, .tuple ds, h => by unfold dmB at h; cases h
  | 0, .list ds, h => by unfold dmB at h; cases h
  | n + 1, .tuple ds, h => by
    unfold dmB at h
    simp only [Bool.and_eq_true, decide_eq_true_eq, List.all_eq_true] at h
    exact .tup n ds h.1 fun d hd => dmB_ok n d (h.2 d hd)
  | n + 1, .list ds, h => by
    unfold dmB at h
    simp only [Bool.and_eq_true, decide_eq_true_eq, List.all_eq_true] at h
    exact .lst n ds h.1 fun d hd => dmB_ok n d (h.2 d hd)
  | 0, .dict _, h => by unfold dmB at h; cases h
  | n + 1, .dict _, h => by unfold dmB at h; cases h
section
variable {P : Program} {w : World} {K : PySem.W.Frag} {mg : Str → Option Value} {base : Heap}
/-- a value with a part changed -/
def D_lother (n : Nat) (ds : List PyData) (h : Lh) (P : Wv) : Prop := ∃ (t c : Addr) (x : PyData) (m L k : Nat), ds = [rf t, x, .int (m : Nat)] ∧ TapeOk t c h ∧ m ≤ n ∧ m ≤ 9 ∧ L ≤ 50 ∧ 10 ≤ L ∧ Dm L k x ∧ ∀ d, Dm (2 * L) (k + 4) d → ∀ h', TapeGo t c h h' → P d h'
theorem other_step {k n : Nat} {D' : List PyData → Lh → Wv → Prop} (S : Src K mg "_law_other" st__law_other ["tape", "value", "deep"]) (T : Txt K mg) (C__law_draw : Cal P w K mg base CX0 1 "_law_draw" ["tape", "many"] (SpW K D_draw)) (C__law_pick : Cal P w K mg base CX0 2 "_law_pick" ["tape", "row"] (SpW K D_pick))
    (hk2 : 2 ≤ k) (C__law_other : Cal P w K mg base CX0 k "_law_other" ["tape", "value", "deep"] (SpW K D')) (hn : ∀ m, n = m + 1 → D' = D_lother m) : Cal P w K mg base CX0 (k + 1) "_law_other" ["tape", "value", "deep"] (SpW K (D_lother n)) := by
  have sc := sc__law_other
  refine S.cal (k := k) sc (SpW.len fun ds h P z => by obtain ⟨_, _, _, _, _, _, rfl, _⟩ := z; rfl) (fun f cdv A outer s H vs Q E hr h => ⟨_, (pss_cons (ps_if (PW.pt (pw_and (pt_val (pe_callB (k_isi (K := K) rfl) (by rfl) T.n_isinstance (by decide +kernel) (pa_cons (pv 1) (pa_cons (pe_bltn (v := .ty "tuple") (by rfl) T.n_tuple (by decide +kernel) rfl) pa_nil)))) (pw_and (pt_cmpR op_gt (pe_callB (k_len_seq (K := K) rfl) (by rfl) T.n_len PySem.boot_len (pa_cons (pv 1) pa_nil)) pe_int (nomark _)) (pw_and (pt_cmpR op_gt (pv 2) pe_int (nomark _)) (pw_and1 (pt_cmpR op_gt (pe_cal C__law_draw (hr.mono (by first | decide | omega)) rfl pass0 (pa_cons (pv 0) (pa_cons pe_int pa_nil))) pe_int (nomark _))))))) (pss_cons (ps_set (i := 3) sc.nd rfl (by first | exact Or.inl rfl | exact Or.inr rfl) (pe_cal C__law_draw (hr.mono (by first | decide | omega)) rfl pass0 (pa_cons (pv 0) (pa_cons (pe_callB (k_len_seq (K := K) rfl) (by rfl) T.n_len PySem.boot_len (pa_cons (pv 1) pa_nil)) pa_nil))))
  (pss_one (ps_ret (pe_op (k_catA (K := K) rfl) (pe_op (k_catA (K := K) rfl) (pe_slice (k_sl_tupA (K := K) rfl) (pv 1) po_none (po_some (pv 3))) (pe_tup (pa_cons (pe_cal C__law_other (hr.mono (by first | decide | omega)) rfl pass0 (pa_cons (pv 0) (pa_cons (pe_ix (k_ix_tup (K := K) rfl) (pv 1) (pv 3) (fun _ _ => rfl)) (pa_cons (pe_op op_sub (pv 2) pe_int) pa_nil)))) pa_nil))) (pe_slice (k_sl_tupA (K := K) rfl) (pv 1) (po_some (pe_op op_add (pv 3) pe_int)) po_none))))) pss_nil)
  (pss_cons (ps_set (i := 4) sc.nd rfl (by first | exact Or.inl rfl | exact Or.inr rfl) (pe_lst (pa_cons pe_non (pa_cons pe_bl (pa_cons (pe_un un_neg pe_int) (pa_cons pe_int (pa_cons pe_int (pa_cons pe_int (pa_cons pe_int (pa_cons pe_str (pa_cons pe_str (pa_cons (pe_tup pa_nil) (pa_cons (pe_tup (pa_cons pe_int pa_nil)) (pa_cons (pe_lst (pa_cons pe_str pa_nil)) (pa_cons (pe_op op_pow pe_int pe_int) (pa_cons (pe_un un_neg (pe_op op_pow pe_int pe_int)) (pa_cons pe_str (pa_cons (pe_tup (pa_cons pe_str (pa_cons pe_int pa_nil))) (pa_cons (pe_tup (pa_cons pe_str (pa_cons pe_int pa_nil))) (pa_cons (pe_tup (pa_cons pe_str (pa_cons pe_bl pa_nil))) (pa_cons (pe_tup (pa_cons pe_str pa_nil)) (pa_cons (pe_tup (pa_cons pe_str (pa_cons (pe_tup (pa_cons pe_str pa_nil)) pa_nil))) (pa_cons (pe_tup (pa_cons pe_str pa_nil)) (pa_cons (pe_tup (pa_cons pe_str pa_nil)) (pa_cons (pe_tup (pa_cons pe_str (pa_cons pe_int (pa_cons pe_int pa_nil)))) (pa_cons (pe_tup (pa_cons pe_str (pa_cons pe_int (pa_cons pe_str pa_nil)))) (pa_cons (pe_tup (pa_cons pe_str (pa_cons pe_int (pa_cons pe_int pa_nil)))) (pa_cons (pe_tup (pa_cons pe_str (pa_cons pe_int pa_nil))) (pa_cons (pe_tup (pa_cons pe_str (pa_cons pe_str pa_nil))) (pa_cons (pe_tup (pa_cons (pe_tup (pa_cons pe_str pa_nil)) pa_nil)) (pa_cons (pe_tup (pa_cons pe_str (pa_cons pe_non pa_nil))) (pa_cons (pe_tup (pa_cons pe_str (pa_cons (pe_tup (pa_cons pe_str (pa_cons pe_int (pa_cons pe_int (pa_cons (pe_tup (pa_cons pe_str (pa_cons pe_int pa_nil))) pa_nil))))) pa_nil))) (pa_cons (pe_tup (pa_cons pe_str (pa_cons (pe_tup (pa_cons pe_str pa_nil)) (pa_cons (pe_tup pa_nil) pa_nil)))) (pa_cons (pe_tup (pa_cons pe_str (pa_cons (pe_tup (pa_cons pe_str pa_nil)) (pa_cons (pe_tup pa_nil) pa_nil)))) (pa_cons (pe_tup (pa_cons pe_str pa_nil)) (pa_cons (pe_tup (pa_cons pe_str (pa_cons pe_int pa_nil))) pa_nil))))))))))))))))))))))))))))))))))))
  (pss_cons (ps_set (i := 5) sc.nd rfl (by first | exact Or.inl rfl | exact Or.inr rfl) (pe_cal C__law_draw (hr.mono (by first | decide | omega)) rfl pass0 (pa_cons (pv 0) (pa_cons pe_int pa_nil))))
  (pss_cons (ps_if (PW.pt (pw_and (pt_val (pe_callB (k_isi (K := K) rfl) (by rfl) T.n_isinstance (by decide +kernel) (pa_cons (pv 1) (pa_cons (pe_bltn (v := .ty "tuple") (by rfl) T.n_tuple (by decide +kernel) rfl) pa_nil)))) (pw_and1 (pt_cmpR op_eq (pv 5) pe_int (nomark _))))) (pss_one (ps_ret (pe_callTy (k_list_of (K := K) rfl) (by rfl) T.n_list (by decide +kernel) (pa_cons (pv 1) pa_nil)))) pss_nil)
  (pss_cons (ps_if (PW.pt (pw_and (pt_val (pe_callB (k_isi (K := K) rfl) (by rfl) T.n_isinstance (by decide +kernel) (pa_cons (pv 1) (pa_cons (pe_bltn (v := .ty "tuple") (by rfl) T.n_tuple (by decide +kernel) rfl) pa_nil)))) (pw_and1 (pt_cmpR op_eq (pv 5) pe_int (nomark _))))) (pss_one (ps_ret (pe_slice (k_sl_tupA (K := K) rfl) (pv 1) po_none (po_some (pe_un un_neg pe_int))))) pss_nil)
  (pss_cons (ps_if (PW.pt (pw_and (pt_val (pe_callB (k_isi (K := K) rfl) (by rfl) T.n_isinstance (by decide +kernel) (pa_cons (pv 1) (pa_cons (pe_bltn (v := .ty "tuple") (by rfl) T.n_tuple (by decide +kernel) rfl) pa_nil)))) (pw_and1 (pt_cmpR op_eq (pv 5) pe_int (nomark _))))) (pss_one (ps_ret (pe_op (k_catA (K := K) rfl) (pv 1) (pe_slice (k_sl_tupA (K := K) rfl) (pv 1) po_none (po_some pe_int))))) pss_nil)
  (pss_one (ps_ret (pe_cal C__law_pick (hr.mono (by first | decide | omega)) rfl pass0 (pa_cons (pv 0) (pa_cons (pv 4) pa_nil))))))))))), h.enter fun ds lh P hD => ?_⟩)
  obtain ⟨t, c, x, m, L, k, rfl, T0, hmn, hm9, hL, hL2, dx, hk⟩ := hD
  have fin : ∀ d, Dm (2 * L) (k + 4) d → ∀ h', TapeGo t c lh h' → P d h' := hk
  have f_odd : ∀ h1, TapeGo t c lh h1 → ∀ es : List PyData, es.all (dmB 10 4) = true → es ≠ [] → es.length ≤ 1000 → D_pick [rf t, .list es] h1 P := fun h1 g es h2 h3 h4 =>
    D_pick_run g.ok h3 h4 fun d hd h' g' => hk d ((dmB_ok _ _ (List.all_eq_true.mp h2 d hd)).le (by omega) (by omega)) h' (g.trans g')
  cases dx with
  | tup k ds hl hm =>
    simp
    refine wCond.i (fun hA => ?_) fun _ => ?_
    · simp at hA
      refine D_draw_run T0 (m := 5) (by omega) (by omega) fun r hr h1 g1 => ⟨_, rfl, wCond.i (fun hB => ?_) fun _ => ?_⟩
      · refine D_draw_run g1.ok (by omega) (by omega) fun j hj h2 g2 => ⟨_, rfl, _, rfl, ds[j], atI_nat (j := j) (by simp [hj]), ?_⟩
        obtain ⟨n', rfl⟩ : ∃ n', n = n' + 1 := ⟨n - 1, by omega⟩
        have := hn n' rfl
        subst this
        have em : ((m : Int) - 1) = ((m - 1 : Nat) : Int) := by omega
        rw [em]
        refine ⟨t, c, ds[j], m - 1, L, _, rfl, g2.ok, by omega, by omega, hL, hL2, hm _ (List.getElem_mem hj), fun d hd h3 g3 => ?_⟩
        have ej : ((j : Int) + 1) = ((j + 1 : Nat) : Int) := by omega
        rw [cutD_tn]
        refine ⟨by simp; omega, _, rfl, ?_⟩
        rw [ej, cutD_n]
        refine ⟨by simp; omega, fin _ ?_ _ ((g1.trans g2).trans g3)⟩
        refine (Dm.tup (n := k + 4) _ (by simp; omega) fun y hy => ?_).le (Nat.le_refl _) (by omega)
        rcases List.mem_append.mp hy with q | q
        · exact (hm y (List.mem_of_mem_take q)).le (by omega) (by omega)
        · rcases List.mem_cons.mp q with rfl | q
          · exact hd
          · exact (hm y (List.mem_of_mem_drop q)).le (by omega) (by omega)
      · have GG := g1
        refine D_draw_run GG.ok (m := 7) (by omega) (by omega) fun kd hkd h2 g2 => ?_
        have gk := GG.trans g2
        simp
        refine wCond.p (fun _ => fin _ ?_ _ gk) fun _ => ?_
        · exact .lst _ _ (by omega) fun d hd => (hm d hd).le (by omega) (by omega)
        refine wCond.p (fun _ => fin _ ?_ _ gk) fun _ => ?_
        · exact .tup _ _ (by simp; omega) fun d hd => (hm d (List.dropLast_subset _ hd)).le (by omega) (by omega)
        refine wCond.p (fun _ => ⟨by omega, fin _ ?_ _ gk⟩) fun _ => ?_
        · refine .tup _ _ (by simp; omega) fun d hd => ?_
          rcases List.mem_append.mp hd with q | q
          · exact (hm d q).le (by omega) (by omega)
          · exact (hm d (List.mem_of_mem_take q)).le (by omega) (by omega)
        exact f_odd _ gk _ (by decide +kernel) (by simp) (by simp)
    · have GG := TapeGo.refl T0
      refine D_draw_run GG.ok (m := 7) (by omega) (by omega) fun kd hkd h2 g2 => ?_
      have gk := GG.trans g2
      simp
      refine wCond.p (fun _ => fin _ ?_ _ gk) fun _ => ?_
      · exact .lst _ _ (by omega) fun d hd => (hm d hd).le (by omega) (by omega)
      refine wCond.p (fun _ => fin _ ?_ _ gk) fun _ => ?_
      · exact .tup _ _ (by simp; omega) fun d hd => (hm d (List.dropLast_subset _ hd)).le (by omega) (by omega)
      refine wCond.p (fun _ => ⟨by omega, fin _ ?_ _ gk⟩) fun _ => ?_
      · refine .tup _ _ (by simp; omega) fun d hd => ?_
        rcases List.mem_append.mp hd with q | q
        · exact (hm d q).le (by omega) (by omega)
        · exact (hm d (List.mem_of_mem_take q)).le (by omega) (by omega)
      exact f_odd _ gk _ (by decide +kernel) (by simp) (by simp)
  | _ =>
    simp
    refine D_draw_run T0 (m := 7) (by omega) (by omega) fun kd hkd h2 g2 => ?_
    exact f_odd _ g2 _ (by decide +kernel) (by simp) (by simp)
end
end K96
set_option Elab.async false
set_option linter.all false
set_option maxRecDepth 100000
set_option maxHeartbeats 4000000
set_option synthInstance.maxHeartbeats 1000000
set_option synthInstance.maxSize 1000000
namespace K96
open PySem PySem.Spec PyProof.Rows L2 Evl Pd Wl
section
variable {P : Program} {w : World} {K : PySem.W.Frag} {mg : Str → Option Value} {base : Heap}
theorem cal__law_other (S : Src K mg "_law_other" st__law_other ["tape", "value", "deep"]) (T : Txt K mg) (C__law_draw : Cal P w K mg base CX0 1 "_law_draw" ["tape", "many"] (SpW K D_draw)) (C__law_pick : Cal P w K mg base CX0 2 "_law_pick" ["tape", "row"] (SpW K D_pick)) : ∀ n, Cal P w K mg base CX0 (n + 3) "_law_other" ["tape", "value", "deep"] (SpW K (D_lother n))
  | 0 => other_step S T C__law_draw C__law_pick (k := 2) (by omega) (cal_lnone S) (fun m h => by omega)
  | n + 1 => other_step S T C__law_draw C__law_pick (k := n + 3) (by omega) (cal__law_other S T C__law_draw C__law_pick n) (fun m h => by
      have : n = m := by omega
      rw [this])
def D_ldeep (ds : List PyData) (h : Lh) (P : Wv) : Prop := ∃ (t c : Addr) (cnt : Nat), ds = [rf t, .int (cnt : Nat)] ∧ TapeOk t c h ∧ ∀ d, Dm 10 60 d → ∀ h', TapeGo t c h h' → P d h'
theorem dm1 {L n : Nat} {a : PyData} (hL : 1 ≤ L) (ha : Dm L n a) : Dm L (n + 1) (.tuple [a]) := .tup _ _ hL fun d hd => by cases List.mem_singleton.mp hd; exact ha
theorem dm2 {L n : Nat} {a b : PyData} (hL : 2 ≤ L) (ha : Dm L n a) (hb : Dm L n b) : Dm L (n + 1) (.tuple [a, b]) := .tup _ _ hL fun d hd => by
  simp at hd; rcases hd with rfl | rfl <;> assumption
theorem dm3 {L n : Nat} {a b c : PyData} (hL : 3 ≤ L) (ha : Dm L n a) (hb : Dm L n b) (hc : Dm L n c) : Dm L (n + 1) (.tuple [a, b, c]) := .tup _ _ hL fun d hd => by
  simp at hd; rcases hd with rfl | rfl | rfl <;> assumption
theorem dm4 {L n : Nat} {a b c e : PyData} (hL : 4 ≤ L) (ha : Dm L n a) (hb : Dm L n b) (hc : Dm L n c) (he : Dm L n e) : Dm L (n + 1) (.tuple [a, b, c, e]) := .tup _ _ hL fun d hd => by
  simp at hd; rcases hd with rfl | rfl | rfl | rfl <;> assumption
theorem dmB' {L n : Nat} {d : PyData} (h : dmB L n d = true) : Dm L n d := dmB_ok n d h
theorem cal__law_deep (S : Src K mg "_law_deep" st__law_deep ["tape", "count"]) (T : Txt K mg) (C__law_draw : Cal P w K mg base CX0 1 "_law_draw" ["tape", "many"] (SpW K D_draw)) (C__law_pick : Cal P w K mg base CX0 2 "_law_pick" ["tape", "row"] (SpW K D_pick)) : Cal P w K mg base CX0 3 "_law_deep" ["tape", "count"] (SpW K D_ldeep) := by
  have sc := sc__law_deep
  refine S.cal (k := 2) sc (SpW.len fun ds h P z => by obtain ⟨_, _, _, rfl, _⟩ := z; rfl) (fun f cdv A outer s H vs Q E hr h => ⟨_, (pss_cons (ps_set (i := 2) sc.nd rfl (by first | exact Or.inl rfl | exact Or.inr rfl) (pe_cal C__law_pick (hr.mono (by first | decide | omega)) rfl pass0 (pa_cons (pv 0) (pa_cons (pe_lst (pa_cons pe_int (pa_cons pe_int (pa_cons pe_int (pa_cons pe_int (pa_cons pe_int (pa_cons pe_int (pa_cons pe_int (pa_cons pe_int pa_nil))))))))) pa_nil))))
  (pss_cons (ps_set (i := 3) sc.nd rfl (by first | exact Or.inl rfl | exact Or.inr rfl) (pe_callB (call_max2 rfl) (by rfl) T.n_max (by decide +kernel) (pa_cons pe_int (pa_cons (pe_op op_add (pe_op op_sub pe_int (pv 2)) (pe_cal C__law_pick (hr.mono (by first | decide | omega)) rfl pass0 (pa_cons (pv 0) (pa_cons (pe_lst (pa_cons (pe_un un_neg pe_int) (pa_cons pe_int (pa_cons pe_int (pa_cons (pe_un un_neg pe_int) pa_nil))))) pa_nil)))) pa_nil))))
  (pss_cons (ps_set (i := 4) sc.nd rfl (by first | exact Or.inl rfl | exact Or.inr rfl) (pe_tup (pa_cons pe_str pa_nil)))
  (pss_cons (ps_for PassesOwn.never rfl (pi_range1 (by rfl) T.n_range (pa_cons (pv 3) pa_nil)) (pg_name (i := 5) sc.nd rfl (by first | exact Or.inl rfl | exact Or.inr rfl)) (pss_one (ps_set (i := 4) sc.nd rfl (by first | exact Or.inl rfl | exact Or.inr rfl) (pe_tup (pa_cons pe_str (pa_cons (pv 4) pa_nil))))))
  (pss_cons (ps_set (i := 6) sc.nd rfl (by first | exact Or.inl rfl | exact Or.inr rfl) (pe_ifExp (pt_cmpR op_eq (pe_cal C__law_draw (hr.mono (by first | decide | omega)) rfl pass0 (pa_cons (pv 0) (pa_cons pe_int pa_nil))) pe_int (nomark _)) (pe_tup (pa_cons (pe_tup (pa_cons pe_str pa_nil)) (pa_cons (pe_tup (pa_cons pe_str (pa_cons (pv 4) (pa_cons (pe_tup pa_nil) (pa_cons (pe_tup pa_nil) pa_nil))))) pa_nil))) (pe_tup (pa_cons (pe_tup (pa_cons pe_str pa_nil)) pa_nil))))
  (pss_cons (ps_for PassesOwn.never rfl (pi_range1 (by rfl) T.n_range (pa_cons (pv 2) pa_nil)) (pg_name (i := 5) sc.nd rfl (by first | exact Or.inl rfl | exact Or.inr rfl)) (pss_one (ps_set (i := 6) sc.nd rfl (by first | exact Or.inl rfl | exact Or.inr rfl) (pe_ifExp (pt_cmpR op_eq (pe_cal C__law_draw (hr.mono (by first | decide | omega)) rfl pass0 (pa_cons (pv 0) (pa_cons pe_int pa_nil))) pe_int (nomark _)) (pe_tup (pa_cons (pe_tup (pa_cons pe_str (pa_cons (pe_tup (pa_cons pe_str pa_nil)) (pa_cons (pv 6) pa_nil)))) pa_nil)) (pe_tup (pa_cons (pe_tup (pa_cons pe_str (pa_cons (pe_tup (pa_cons pe_str (pa_cons pe_str pa_nil))) (pa_cons (pe_tup pa_nil) (pa_cons (pv 6) pa_nil))))) pa_nil))))))
  (pss_one (ps_ret (pe_tup (pa_cons (pv 1) (pa_cons (pv 6) pa_nil))))))))))), h.enter fun ds lh P hD => ?_⟩)
  obtain ⟨t, c, cnt, rfl, T0, hk⟩ := hD
  simp
  refine D_pick_run T0 (by simp) (by simp) fun x hx h1 g1 => ?_
  obtain ⟨m, rfl, hm⟩ : ∃ m : Nat, x = .int (m : Nat) ∧ m ≤ 22 := by
    simp at hx
    rcases hx with rfl | rfl | rfl | rfl | rfl | rfl | rfl | rfl
    · exact ⟨0, rfl, by omega⟩
    · exact ⟨1, rfl, by omega⟩
    · exact ⟨10, rfl, by omega⟩
    · exact ⟨18, rfl, by omega⟩
    · exact ⟨19, rfl, by omega⟩
    · exact ⟨20, rfl, by omega⟩
    · exact ⟨21, rfl, by omega⟩
    · exact ⟨22, rfl, by omega⟩
  simp
  refine D_pick_run g1.ok (by simp) (by simp) fun y hy h2 g2 => ?_
  obtain ⟨q, rfl, hq⟩ : ∃ q : Int, y = .int q ∧ -5 ≤ q ∧ q ≤ 1 := by
    simp at hy
    rcases hy with rfl | rfl | rfl | rfl <;> exact ⟨_, rfl, by omega, by omega⟩
  have g := g1.trans g2
  obtain ⟨N, hN, hNm, hN2⟩ : ∃ N : Nat, (if 0 < (20 : Int) - (m : Nat) + q then (20 : Int) - (m : Nat) + q else 0) = (N : Int) ∧ N + m ≤ 43 ∧ N ≤ 21 := by
    refine ⟨(if 0 < (20 : Int) - (m : Nat) + q then (20 : Int) - (m : Nat) + q else 0).toNat, ?_, ?_, ?_⟩ <;> split <;> omega
  refine ⟨q, rfl, ?_⟩
  rw [hN]
  refine ⟨by omega, by omega, ?_⟩
  refine forL_run (fun ds ρ h => ∃ i tst o5, ds = (rgD 0 (N : Nat)).drop i ∧ i ≤ N ∧ ρ = [some (rf t), some (.int (cnt : Nat)), some (.int (m : Nat)), some (.int (N : Nat)), some tst, o5, none] ∧ h = h2 ∧ Dm 10 (i + 1) tst) ?_ ?_ ⟨0, _, none, rfl, by omega, rfl, rfl, dmB' (by decide +kernel)⟩
  · rintro d ds ρ h ⟨i, tst, o5, e0, hi, rfl, rfl, dt⟩
    refine ⟨trivial, fun F hF => ?_⟩
    have hi' : i < N := by
      have := congrArg List.length e0
      simp [rgD_len] at this
      omega
    have hdr : (rgD 0 (N : Nat)).drop i = .int (i : Nat) :: (rgD 0 (N : Nat)).drop (i + 1) := by
      rw [List.drop_eq_getElem_cons (by rw [rgD_len]; omega)]
      congr 1
      simp [rgD]
    rw [hdr] at e0
    cases e0
    simp
    exact hF _ _ ⟨i + 1, _, _, rfl, hi', rfl, rfl, dm2 (by omega) (.str _ _ (by decide +kernel)) dt⟩
  · rintro ρ h ⟨i, tst, o5, e0, hi, rfl, rfl, dt⟩
    refine ⟨trivial, ?_⟩
    have hiN : N ≤ i := by
      have := congrArg List.length e0
      simp [rgD_len] at this
      omega
    simp
    refine D_draw_run g2.ok (m := 2) (by omega) (by omega) fun r hr h3 g3 => ?_
    have g3' := g.trans g3
    have sok : ∀ s ∈ (["stop", "if", "while", "true", "answer", "ok"] : List Str), PyData.strOk s = true := by decide +kernel
    have loop : ∀ blk, Dm 10 (N + 3) blk → -100000000 ≤ (m : Int) ∧ (m : Int) ≤ 100000000 ∧
        forL (fun x => True) (wName 5) (wAsg (wIf (wTst (wOp fEq (wCallW D_draw (wCons (wVar 0) (wCons (wC (PyData.int 2)) wNil))) (wC (PyData.int 0))))
          (wTup (wCons (wTup (wCons (wC (PyData.str (Str.ofString "while"))) (wCons (wTup (wCons (wC (PyData.str (Str.ofString "true"))) wNil)) (wCons (wVar 6) wNil)))) wNil))
          (wTup (wCons (wTup (wCons (wC (PyData.str (Str.ofString "if"))) (wCons (wTup (wCons (wC (PyData.str (Str.ofString "answer"))) (wCons (wC (PyData.str (Str.ofString "ok"))) wNil))) (wCons (wTup wNil) (wCons (wVar 6) wNil))))) wNil))) (wName 6))
          { nx := wRet (wTup (wCons (wVar 1) (wCons (wVar 6) wNil))) { nx := fun x h' => P PyData.none h', rt := P }, rt := P } (rgD 0 (m : Nat))
          [some (rf t), some (.int (cnt : Nat)), some (.int (m : Nat)), some (.int (N : Nat)), some tst, o5, some blk] h3 := fun blk db => by
      refine ⟨by omega, by omega, forL_run (fun ds ρ h => ∃ i blk o5, ds = (rgD 0 (m : Nat)).drop i ∧ i ≤ m ∧ ρ = [some (rf t), some (.int (cnt : Nat)), some (.int (m : Nat)), some (.int (N : Nat)), some tst, o5, some blk] ∧ TapeGo t c lh h ∧ Dm 10 (N + 3 + 2 * i) blk) ?_ ?_ ⟨0, blk, o5, rfl, by omega, rfl, g3', db⟩⟩
      · rintro d ds ρ h ⟨i, blk, o5, e0, hi, rfl, gg, dt⟩
        refine ⟨trivial, fun F hF => ?_⟩
        have hi' : i < m := by
          have := congrArg List.length e0
          simp [rgD_len] at this
          omega
        have hdr : (rgD 0 (m : Nat)).drop i = .int (i : Nat) :: (rgD 0 (m : Nat)).drop (i + 1) := by
          rw [List.drop_eq_getElem_cons (by rw [rgD_len]; omega)]
          congr 1
          simp [rgD]
        rw [hdr] at e0
        cases e0
        simp
        refine D_draw_run gg.ok (m := 2) (by omega) (by omega) fun r hr h4 g4 => ?_
        have e1 : N + 3 + 2 * (i + 1) = N + 3 + 2 * i + 1 + 1 := by omega
        simp
        refine wCond.i (fun _ => hF _ _ ⟨i + 1, _, _, rfl, hi', rfl, gg.trans g4, ?_⟩) fun _ => hF _ _ ⟨i + 1, _, _, rfl, hi', rfl, gg.trans g4, ?_⟩
        · rw [e1]
          exact dm1 (by omega) (dm3 (by omega) (.str _ _ (sok _ (by simp))) ((dm1 (n := 0) (by omega) (.str _ _ (sok _ (by simp)))).le (Nat.le_refl _) (by omega)) dt)
        · rw [e1]
          exact dm1 (by omega) (dm4 (by omega) (.str _ _ (sok _ (by simp))) ((dm2 (n := 0) (by omega) (.str _ _ (sok _ (by simp))) (.str _ _ (sok _ (by simp)))).le (Nat.le_refl _) (by omega)) ((Dm.tup (n := 0) [] (by simp) (by simp)).le (Nat.le_refl _) (by omega)) dt)
      · rintro ρ h ⟨i, blk, o5, e0, hi, rfl, gg, dt⟩
        refine ⟨trivial, ?_⟩
        simp
        exact hk _ ((dm2 (by omega) (.int _ _) dt).le (Nat.le_refl _) (by omega)) _ gg
    have dtst : Dm 10 (N + 1) tst := dt.le (Nat.le_refl _) (by omega)
    simp
    refine wCond.i (fun _ => ?_) fun _ => ?_
    · have := loop (.tuple [.tuple [.str "stop"], .tuple [.str "if", tst, .tuple [], .tuple []]]) (dm2 (by omega) ((dm1 (n := 0) (by omega) (.str _ _ (sok _ (by simp)))).le (Nat.le_refl _) (by omega)) (dm4 (by omega) (.str _ _ (sok _ (by simp))) dtst ((Dm.tup (n := 0) [] (by simp) (by simp)).le (Nat.le_refl _) (by omega)) ((Dm.tup (n := 0) [] (by simp) (by simp)).le (Nat.le_refl _) (by omega))))
      simpa using this
    · have := loop (.tuple [.tuple [.str "stop"]]) ((dm1 (n := 1) (by omega) (dm1 (by omega) (.str _ _ (sok _ (by simp))))).le (Nat.le_refl _) (by omega))
      simpa using this
end
end K96
set_option Elab.async false
set_option linter.all false
set_option maxRecDepth 100000
set_option maxHeartbeats 4000000
set_option synthInstance.maxHeartbeats 1000000
set_option synthInstance.maxSize 1000000
namespace K96
open PySem PySem.Spec PyProof.Rows L2 Evl Pd Wl
abbrev D_law := D_lawT
section
variable {P : Program} {w : World} {K : PySem.W.Frag} {mg : Str → Option Value} {base : Heap}
theorem law_body {fa : Addr} {fd : FuncData} (FL : Fun K "law" "law" st_law fa fd) (T : Txt K mg) (C__law_tape : Cal P w K mg base CX0 1 "_law_tape" ["script"] (SpW K D_tape)) (C__law_draw : Cal P w K mg base CX0 1 "_law_draw" ["tape", "many"] (SpW K D_draw)) (C__law_pick : Cal P w K mg base CX0 2 "_law_pick" ["tape", "row"] (SpW K D_pick)) (C__law_shape : Cal P w K mg base CX0 2 "_law_shape" ["tape"] (SpW K D_lshape))
    (C__law_teller : Cal P w K mg base CX0 9 "_law_teller" ["tape", "shape"] (SpW K D_lteller)) (C__law_deep : Cal P w K mg base CX0 3 "_law_deep" ["tape", "count"] (SpW K D_ldeep)) (C__law_other : Cal P w K mg base CX0 12 "_law_other" ["tape", "value", "deep"] (SpW K (D_lother 9))) (C__law_is_teller : Cal P w K mg base CX0 25 "_law_is_teller" ["value", "shape"] (SpW K D_ltel))
    (C_is_teller : CalK P w K mg base CX0 69 "is_teller" ["value", "roots", "registers"] 1 ["roots", "registers"] (SpW K D_is_teller)) (C__law_checked : Cal P w K mg base CX0 71 "_law_checked" ["value", "shape"] (SpW K D_checked)) : FnOk P w K mg base CX0 73 fa fd ["script"] (SpW K D_law) := by
  have sc := sc_law
  refine FL.ok sc (SpW.len fun ds h P z => by obtain ⟨_, rfl, _⟩ := z; rfl) (fun cdv A outer s H vs Q E hr h => ⟨_, (pss_cons (ps_set (i := 1) sc.nd rfl (by first | exact Or.inl rfl | exact Or.inr rfl) (pe_cal C__law_tape (hr.mono (by first | decide | omega)) rfl pass0 (pa_cons (pv 0) pa_nil)))
  (pss_cons (ps_set (i := 2) sc.nd rfl (by first | exact Or.inl rfl | exact Or.inr rfl) (pe_cal C__law_shape (hr.mono (by first | decide | omega)) rfl pass0 (pa_cons (pv 1) pa_nil)))
  (pss_cons (ps_set (i := 3) sc.nd rfl (by first | exact Or.inl rfl | exact Or.inr rfl) (pe_tup (pa_cons (pe_ix (k_ix_tup (K := K) rfl) (pv 2) pe_int (fun _ _ => rfl)) (pa_cons (pe_ix (k_ix_tup (K := K) rfl) (pv 2) pe_int (fun _ _ => rfl)) (pa_cons (pe_cal C__law_draw (hr.mono (by first | decide | omega)) rfl pass0 (pa_cons (pv 1) (pa_cons (pe_op op_add (pe_ix (k_ix_tup (K := K) rfl) (pv 2) pe_int (fun _ _ => rfl)) pe_int) pa_nil))) (pa_cons (pe_op op_add pe_int (pe_cal C__law_draw (hr.mono (by first | decide | omega)) rfl pass0 (pa_cons (pv 1) (pa_cons (pe_ix (k_ix_tup (K := K) rfl) (pv 2) pe_int (fun _ _ => rfl)) pa_nil)))) (pa_cons (pe_ix (k_ix_tup (K := K) rfl) (pv 2) pe_int (fun _ _ => rfl)) pa_nil)))))))
  (pss_cons (ps_set (i := 4) sc.nd rfl (by first | exact Or.inl rfl | exact Or.inr rfl) (pe_cal C__law_teller (hr.mono (by first | decide | omega)) rfl pass0 (pa_cons (pv 1) (pa_cons (pv 2) pa_nil))))
  (pss_cons (ps_set (i := 5) sc.nd rfl (by first | exact Or.inl rfl | exact Or.inr rfl) (pe_ref (pe_lst (pa_cons (pv 4) (pa_cons (pe_cal C__law_deep (hr.mono (by first | decide | omega)) rfl pass0 (pa_cons (pv 1) (pa_cons (pe_ix (k_ix_tup (K := K) rfl) (pv 4) pe_int (fun _ _ => rfl)) pa_nil))) (pa_cons (pe_cal C__law_pick (hr.mono (by first | decide | omega)) rfl pass0 (pa_cons (pv 1) (pa_cons (pe_lst (pa_cons (pe_tup (pa_cons pe_int (pa_cons (pe_tup pa_nil) pa_nil))) (pa_cons (pe_tup (pa_cons pe_int (pa_cons (pe_tup pa_nil) pa_nil))) (pa_cons (pe_tup (pa_cons pe_int (pa_cons (pe_tup pa_nil) pa_nil))) (pa_cons (pe_tup (pa_cons pe_bl (pa_cons (pe_tup pa_nil) pa_nil))) (pa_cons (pe_lst (pa_cons pe_int (pa_cons (pe_tup pa_nil) pa_nil))) (pa_cons pe_non (pa_cons pe_str pa_nil)))))))) pa_nil))) pa_nil))))))
  (pss_cons (ps_for PassesOwn.never rfl (pi_range1 (by rfl) T.n_range (pa_cons pe_int pa_nil)) (pg_name (i := 6) sc.nd rfl (by first | exact Or.inl rfl | exact Or.inr rfl)) (pss_cons (ps_set (i := 7) sc.nd rfl (by first | exact Or.inl rfl | exact Or.inr rfl) (pe_cal C__law_other (hr.mono (by first | decide | omega)) rfl pass0 (pa_cons (pv 1) (pa_cons (pv 4) (pa_cons pe_int pa_nil)))))
  (pss_one (ps_expr (k_append (K := K) rfl (pv 5) (pa_cons (pe_ifExp (pt_cmpR op_eq (pe_cal C__law_draw (hr.mono (by first | decide | omega)) rfl pass0 (pa_cons (pv 1) (pa_cons pe_int pa_nil))) pe_int (nomark _)) (pe_cal C__law_other (hr.mono (by first | decide | omega)) rfl pass0 (pa_cons (pv 1) (pa_cons (pv 7) (pa_cons pe_int pa_nil)))) (pv 7)) pa_nil))))))
  (pss_cons (ps_for PassesOwn.never rfl (k_pi_list (K := K) rfl (pv 5)) (pg_name (i := 7) sc.nd rfl (by first | exact Or.inl rfl | exact Or.inr rfl)) (pss_one (ps_for PassesOwn.never rfl (k_pi_list (K := K) rfl (pe_lst (pa_cons (pv 2) (pa_cons (pv 3) pa_nil)))) (pg_name (i := 8) sc.nd rfl (by first | exact Or.inl rfl | exact Or.inr rfl)) (pss_cons (ps_set (i := 9) sc.nd rfl (by first | exact Or.inl rfl | exact Or.inr rfl) (pe_cal C__law_is_teller (hr.mono (by first | decide | omega)) rfl pass0 (pa_cons (pv 7) (pa_cons (pv 8) pa_nil))))
  (pss_cons (ps_set (i := 10) sc.nd rfl (by first | exact Or.inl rfl | exact Or.inr rfl) (pe_calK C_is_teller (hr.mono (by first | decide | omega)) rfl pass0 (pa_cons (pv 7) pa_nil) (pk_cons (pe_ix (k_ix_tup (K := K) rfl) (pv 8) pe_int (fun _ _ => rfl)) (pk_cons (pe_ix (k_ix_tup (K := K) rfl) (pv 8) pe_int (fun _ _ => rfl)) pk_nil))))
  (pss_one (ps_if (PW.pt (pw_or (pt_not (pt_val (pe_callB (k_isi (K := K) rfl) (by rfl) T.n_isinstance (by decide +kernel) (pa_cons (pv 10) (pa_cons (pe_bltn (v := .ty "bool") (by rfl) T.n_bool (by decide +kernel) rfl) pa_nil))))) (pw_or (pt_cmpR op_ne (pv 10) (pv 9) (nomark _)) (pw_or1 (pt_cmpR op_ne (pe_cal C__law_checked (hr.mono (by first | decide | omega)) rfl pass0 (pa_cons (pv 7) (pa_cons (pv 8) pa_nil))) (pv 9) (nomark _)))))) (pss_one (ps_ret pe_bl)) pss_nil)))))))
  (pss_one (ps_ret (pe_cal C__law_is_teller (hr.mono (by first | decide | omega)) rfl pass0 (pa_cons (pv 4) (pa_cons (pv 2) pa_nil)))))))))))), h.enter fun ds lh P hD => ?_⟩)
  obtain ⟨ns, rfl, hl, rfl, hk⟩ := hD
  simp
  refine ⟨ns, rfl, hl, fun t c h1 ht hc g1 => ?_⟩
  simp
  refine ⟨t, c, rfl, g1.ok, fun a b R G e hR hG1 hG2 h2 g2 => ?_⟩
  simp
  have e1 : ((R : Int) + 1) = ((R + 1 : Nat) : Int) := by omega
  rw [e1]
  refine D_draw_run g2.ok (by omega) (by omega) fun r hr h3 g3 => ?_
  refine D_draw_run g3.ok (by omega) (by omega) fun s hs h4 g4 => ⟨_, rfl, t, c, a, b, R, G, e, rfl, g4.ok, by omega, by omega, by omega, ?_⟩
  rintro d ⟨cnt, bl, rfl, hcnt, htel, hdm, _⟩ h5 g5
  simp
  refine ⟨t, c, cnt, rfl, g5.ok, fun d2 hd2 h6 g6 => ?_⟩
  refine D_pick_run g6.ok (by simp) (by simp) fun d3 hd3 h7 g7 => ?_
  intro p hp hp7
  have pt : p ≠ t := fun z => by obtain ⟨⟨o, e⟩, _⟩ := g7.ok.has; rw [← z, hp7] at e; cases e
  have pc : p ≠ c := fun z => by obtain ⟨_, ⟨o, e⟩⟩ := g7.ok.has; rw [← z, hp7] at e; cases e
  have r1 : Rd0 (.tuple [.int (cnt : Nat), bl]) := Rd0.of hdm (by omega) (by omega)
  have r2 : Rd0 d2 := Rd0.of hd2 (by omega) (by omega)
  have r3 : Rd0 d3 := by
    simp at hd3
    rcases hd3 with rfl | rfl | rfl | rfl | rfl | rfl | rfl <;> exact Rd0.of (L := 10) (n := 10) (dmB_ok _ _ (by decide +kernel)) (by omega) (by omega)
  refine forL_run (fun ds ρ h => ∃ i acc o6 o7, ds = (rgD 0 8).drop i ∧ i ≤ 8 ∧ ρ = [some (.dict [(.none, .tuple (ns.map .int))]), some (rf t), some (eSk a b (R : Nat) (G : Nat) e), some (eSk a b (r : Nat) (1 + (s : Nat)) e), some (.tuple [.int (cnt : Nat), bl]), some (rf p), o6, o7, none, none, none] ∧
    TapeOk t c h ∧ h p = some (.lst acc) ∧ acc.length = 3 + i ∧ ∀ x ∈ acc, Rd0 x) ?_ ?_ ⟨0, _, none, none, rfl, by omega, rfl, g7.ok.put pt pc, up_same, rfl, by simp [r1, r2, r3]⟩
  · rintro d ds ρ h ⟨i, acc, o6, o7, e0, hi, rfl, T0, hpa, hal, hacc⟩
    refine ⟨trivial, fun F hF => ?_⟩
    have hi' : i < 8 := by
      have := congrArg List.length e0
      simp [rgD_len] at this
      omega
    have hdr : (rgD 0 8).drop i = .int (i : Nat) :: (rgD 0 8).drop (i + 1) := by
      rw [List.drop_eq_getElem_cons (by rw [rgD_len]; omega)]
      congr 1
      simp [rgD]
    rw [hdr] at e0
    cases e0
    have push : ∀ x h2 o6 o7, Rd0 x → TapeGo t c h h2 → ∃ y, h2 p = some (LO.lst y) ∧ y.length < 100000 ∧ F [some (.dict [(.none, .tuple (ns.map .int))]), some (rf t), some (eSk a b (R : Nat) (G : Nat) e), some (eSk a b (r : Nat) (1 + (s : Nat)) e), some (.tuple [.int (cnt : Nat), bl]), some (rf p), o6, o7, none, none, none] (up h2 p (.lst (y ++ [x]))) := fun x h2 o6 o7 rx g =>
      ⟨acc, g.fr p _ pt pc hpa, by omega, hF _ _ ⟨i + 1, acc ++ [x], _, _, rfl, by omega, rfl, g.ok.put pt pc, up_same, by simp; omega, fun y hy => by
        rcases List.mem_append.mp hy with q | q
        · exact hacc y q
        · cases List.mem_singleton.mp q; exact rx⟩⟩
    simp
    refine ⟨t, c, _, 9, 10, 12, rfl, T0, by omega, by omega, by omega, by omega, hdm, fun v hv h8 g8 => ?_⟩
    simp
    refine ⟨⟨acc, by rw [g8.fr p _ pt pc hpa]⟩, ?_⟩
    refine D_draw_run g8.ok (m := 4) (by omega) (by omega) fun q hq h9 g9 => ?_
    simp
    refine wCond.i (fun _ => ?_) fun _ => ?_
    · refine ⟨t, c, v, 9, 20, 16, rfl, g9.ok, by omega, by omega, by omega, by omega, hv, fun u hu ha ga => ?_⟩
      exact push u ha _ _ (Rd0.of hu (by omega) (by omega)) ((g8.trans g9).trans ga)
    · exact push v h9 _ _ (Rd0.of hv (by omega) (by omega)) (g8.trans g9)
  · rintro ρ h ⟨i, acc, o6, o7, e0, hi, rfl, T0, hpa, hal, hacc⟩
    refine ⟨trivial, ?_⟩
    simp
    refine ⟨acc, by rw [hpa], ?_⟩
    refine forL_run (fun ds ρ h' => ∃ o6 o7 o8 o9 o10, h' = h ∧ (∀ x ∈ ds, Rd0 x) ∧ ρ = [some (.dict [(.none, .tuple (ns.map .int))]), some (rf t), some (eSk a b (R : Nat) (G : Nat) e), some (eSk a b (r : Nat) (1 + (s : Nat)) e), some (.tuple [.int (cnt : Nat), bl]), some (rf p), o6, o7, o8, o9, o10]) ?_ ?_ ⟨_, _, none, none, none, rfl, hacc, rfl⟩
    · rintro d ds ρ h' ⟨o6, o7, o8, o9, o10, rfl, hds, rfl⟩
      refine ⟨by rw [hpa], fun F hF => ?_⟩
      have rd := hds d (by simp)
      have hds' : ∀ x ∈ ds, Rd0 x := fun x hx => hds x (by simp [hx])
      simp
      refine ⟨_, _, _, _, _, _, rfl, rd, ?_⟩
      simp [tyH]
      refine ⟨_, _, _, rfl, rd, ?_⟩
      simp [tyH]
      refine ⟨_, _, _, _, _, _, rfl, rd, ?_⟩
      simp [tyH]
      refine ⟨_, _, _, _, _, _, rfl, rd, ?_⟩
      simp [tyH]
      refine ⟨_, _, _, rfl, rd, ?_⟩
      simp [tyH]
      refine ⟨_, _, _, _, _, _, rfl, rd, ?_⟩
      simp [tyH]
      exact hF _ _ ⟨_, _, _, _, _, rfl, hds', rfl⟩
    · rintro ρ h' ⟨o6, o7, o8, o9, o10, rfl, hds, rfl⟩
      refine ⟨by rw [hpa], ?_⟩
      simp
      refine ⟨_, a, b, R, G, e, rfl, r1, ?_⟩
      rw [htel]
      exact hk _
end
end K96
set_option Elab.async false
set_option linter.all false
set_option maxRecDepth 100000
set_option maxHeartbeats 8000000
namespace K96
open PySem PySem.Spec PyProof.Rows L2 Evl Pd Wl
section
variable {P : Program} {w : World} {K : PySem.W.Frag} {mg : Str → Option Value} {base : Heap}
theorem all_mk {l : PySem.W.OpenLaw} {h : Heap} {fa : Addr} (X : K.In h) (G : h.Ns mainGlobals mg) (hfa : mg "law" = some (.ref fa))
    {X0 : Addr} (gX0 : PySem.W.nsIn K mainGlobals "BadTeller" = some (some (.ref X0))) (xX0 : PySem.W.excIn K X0 [.type "ValueError", .type "Exception", .type "BaseException", .type "object"] "ValueError.__new__" = true) (kX0 : PySem.W.keepIn K (.ref X0) = true) (eX0 : PySem.W.subIn K (.ref X0) (.type "BaseException") = some true) (tX0 : PySem.W.typeIn K (.ref X0) = some (.type "type")) (isX0 : PySem.W.isClsIn K X0 = true) (sfX0 : PySem.W.subIn K (.ref X0) (.ref X0) = some true)
    {C : Addr} (gC : PySem.W.nsIn K mainGlobals "Form" = some (some (.ref C))) (pgC : PySem.W.plainGet K C Str.empty = true) (hdC : PySem.W.hasDictIn K C = true) (poC : PySem.W.plainOver K C = true) (saC : PySem.W.findIn K (.ref C) "__setattr__" = some (some (.builtin "object.__setattr__"))) (mkC : PySem.W.makesIn K C = true) (kpC : PySem.W.keepIn K (.ref C) = true)
    (nC_count : PySem.W.findIn K (.ref C) "count" = some none) (nC_roots : PySem.W.findIn K (.ref C) "roots" = some none) (nC_registers : PySem.W.findIn K (.ref C) "registers" = some none)
    {fC_init : Addr} {odC_init anC_init : Option Addr} {slC_init : Array (Option Value)} {ocC_init kVC_init dcC_init pmC_init cdC_init ctC_init : Value}
    (aC_init : PySem.W.findIn K (.ref C) "__init__" = some (some (.ref fC_init))) (lC_init : K.lookup fC_init = some ⟨ocC_init, odC_init, .func (PySem.W.fnOf "__init__" "Form.__init__" (defArgs st_Form_init) (defBody st_Form_init) (defScope st_Form_init) .none kVC_init dcC_init pmC_init anC_init cdC_init ctC_init), slC_init⟩) (cC_init : PySem.W.codeIn K cdC_init "Form.__init__" = true) (kC_init : PySem.W.keepIn K (.ref fC_init) = true)
    (iC_init : PySem.W.isFn K (.ref fC_init) = true)
    {fC_is_block : Addr} {odC_is_block anC_is_block : Option Addr} {slC_is_block : Array (Option Value)} {ocC_is_block kVC_is_block dcC_is_block pmC_is_block cdC_is_block ctC_is_block : Value}
    (aC_is_block : PySem.W.findIn K (.ref C) "is_block" = some (some (.ref fC_is_block))) (lC_is_block : K.lookup fC_is_block = some ⟨ocC_is_block, odC_is_block, .func (PySem.W.fnOf "is_block" "Form.is_block" (defArgs st_Form_is_block) (defBody st_Form_is_block) (defScope st_Form_is_block) .none kVC_is_block dcC_is_block pmC_is_block anC_is_block cdC_is_block ctC_is_block), slC_is_block⟩) (cC_is_block : PySem.W.codeIn K cdC_is_block "Form.is_block" = true) (kC_is_block : PySem.W.keepIn K (.ref fC_is_block) = true)
    (iC_is_block : PySem.W.isFn K (.ref fC_is_block) = true)
    {fC_is_do : Addr} {odC_is_do anC_is_do : Option Addr} {slC_is_do : Array (Option Value)} {ocC_is_do kVC_is_do dcC_is_do pmC_is_do cdC_is_do ctC_is_do : Value}
    (aC_is_do : PySem.W.findIn K (.ref C) "is_do" = some (some (.ref fC_is_do))) (lC_is_do : K.lookup fC_is_do = some ⟨ocC_is_do, odC_is_do, .func (PySem.W.fnOf "is_do" "Form.is_do" (defArgs st_Form_is_do) (defBody st_Form_is_do) (defScope st_Form_is_do) .none kVC_is_do dcC_is_do pmC_is_do anC_is_do cdC_is_do ctC_is_do), slC_is_do⟩) (cC_is_do : PySem.W.codeIn K cdC_is_do "Form.is_do" = true) (kC_is_do : PySem.W.keepIn K (.ref fC_is_do) = true)
    (iC_is_do : PySem.W.isFn K (.ref fC_is_do) = true)
    {fC_is_statement : Addr} {odC_is_statement anC_is_statement : Option Addr} {slC_is_statement : Array (Option Value)} {ocC_is_statement kVC_is_statement dcC_is_statement pmC_is_statement cdC_is_statement ctC_is_statement : Value}
    (aC_is_statement : PySem.W.findIn K (.ref C) "is_statement" = some (some (.ref fC_is_statement))) (lC_is_statement : K.lookup fC_is_statement = some ⟨ocC_is_statement, odC_is_statement, .func (PySem.W.fnOf "is_statement" "Form.is_statement" (defArgs st_Form_is_statement) (defBody st_Form_is_statement) (defScope st_Form_is_statement) .none kVC_is_statement dcC_is_statement pmC_is_statement anC_is_statement cdC_is_statement ctC_is_statement), slC_is_statement⟩) (cC_is_statement : PySem.W.codeIn K cdC_is_statement "Form.is_statement" = true) (kC_is_statement : PySem.W.keepIn K (.ref fC_is_statement) = true)
    (iC_is_statement : PySem.W.isFn K (.ref fC_is_statement) = true)
    {f1 : Addr} {od1 an1 : Option Addr} {sl1 : Array (Option Value)} {oc1 kV1 dc1 pm1 cd1 ct1 : Value}
    (a1 : PySem.W.nsIn K mainGlobals "is_integer" = some (some (.ref f1))) (l1 : K.lookup f1 = some ⟨oc1, od1, .func (PySem.W.fnOf "is_integer" "is_integer" (defArgs st_is_integer) (defBody st_is_integer) (defScope st_is_integer) .none kV1 dc1 pm1 an1 cd1 ct1), sl1⟩) (c1 : PySem.W.codeIn K cd1 "is_integer" = true) (k1 : PySem.W.keepIn K (.ref f1) = true)
    {f2 : Addr} {od2 an2 : Option Addr} {sl2 : Array (Option Value)} {oc2 kV2 dc2 pm2 cd2 ct2 : Value}
    (a2 : PySem.W.nsIn K mainGlobals "is_count" = some (some (.ref f2))) (l2 : K.lookup f2 = some ⟨oc2, od2, .func (PySem.W.fnOf "is_count" "is_count" (defArgs st_is_count) (defBody st_is_count) (defScope st_is_count) .none kV2 dc2 pm2 an2 cd2 ct2), sl2⟩) (c2 : PySem.W.codeIn K cd2 "is_count" = true) (k2 : PySem.W.keepIn K (.ref f2) = true)
    {f3 : Addr} {od3 an3 : Option Addr} {sl3 : Array (Option Value)} {oc3 kV3 dc3 pm3 cd3 ct3 : Value}
    (a3 : PySem.W.nsIn K mainGlobals "is_index" = some (some (.ref f3))) (l3 : K.lookup f3 = some ⟨oc3, od3, .func (PySem.W.fnOf "is_index" "is_index" (defArgs st_is_index) (defBody st_is_index) (defScope st_is_index) .none kV3 dc3 pm3 an3 cd3 ct3), sl3⟩) (c3 : PySem.W.codeIn K cd3 "is_index" = true) (k3 : PySem.W.keepIn K (.ref f3) = true)
    {f4 : Addr} {od4 an4 : Option Addr} {sl4 : Array (Option Value)} {oc4 kV4 dc4 pm4 cd4 ct4 : Value}
    (a4 : PySem.W.nsIn K mainGlobals "is_number" = some (some (.ref f4))) (l4 : K.lookup f4 = some ⟨oc4, od4, .func (PySem.W.fnOf "is_number" "is_number" (defArgs st_is_number) (defBody st_is_number) (defScope st_is_number) .none kV4 dc4 pm4 an4 cd4 ct4), sl4⟩) (c4 : PySem.W.codeIn K cd4 "is_number" = true) (k4 : PySem.W.keepIn K (.ref f4) = true)
    {f5 : Addr} {od5 an5 : Option Addr} {sl5 : Array (Option Value)} {oc5 kV5 dc5 pm5 cd5 ct5 : Value}
    (a5 : PySem.W.nsIn K mainGlobals "is_part" = some (some (.ref f5))) (l5 : K.lookup f5 = some ⟨oc5, od5, .func (PySem.W.fnOf "is_part" "is_part" (defArgs st_is_part) (defBody st_is_part) (defScope st_is_part) .none kV5 dc5 pm5 an5 cd5 ct5), sl5⟩) (c5 : PySem.W.codeIn K cd5 "is_part" = true) (k5 : PySem.W.keepIn K (.ref f5) = true)
    {f6 : Addr} {od6 an6 : Option Addr} {sl6 : Array (Option Value)} {oc6 kV6 dc6 pm6 cd6 ct6 : Value}
    (a6 : PySem.W.nsIn K mainGlobals "is_operation" = some (some (.ref f6))) (l6 : K.lookup f6 = some ⟨oc6, od6, .func (PySem.W.fnOf "is_operation" "is_operation" (defArgs st_is_operation) (defBody st_is_operation) (defScope st_is_operation) .none kV6 dc6 pm6 an6 cd6 ct6), sl6⟩) (c6 : PySem.W.codeIn K cd6 "is_operation" = true) (k6 : PySem.W.keepIn K (.ref f6) = true)
    {f7 : Addr} {od7 an7 : Option Addr} {sl7 : Array (Option Value)} {oc7 kV7 dc7 pm7 cd7 ct7 : Value}
    (a7 : PySem.W.nsIn K mainGlobals "is_test" = some (some (.ref f7))) (l7 : K.lookup f7 = some ⟨oc7, od7, .func (PySem.W.fnOf "is_test" "is_test" (defArgs st_is_test) (defBody st_is_test) (defScope st_is_test) .none kV7 dc7 pm7 an7 cd7 ct7), sl7⟩) (c7 : PySem.W.codeIn K cd7 "is_test" = true) (k7 : PySem.W.keepIn K (.ref f7) = true)
    {f8 : Addr} {od8 an8 : Option Addr} {sl8 : Array (Option Value)} {oc8 kV8 dc8 pm8 cd8 ct8 : Value}
    (a8 : PySem.W.nsIn K mainGlobals "filled" = some (some (.ref f8))) (l8 : K.lookup f8 = some ⟨oc8, od8, .func (PySem.W.fnOf "filled" "filled" (defArgs st_filled) (defBody st_filled) (defScope st_filled) .none kV8 dc8 pm8 an8 cd8 ct8), sl8⟩) (c8 : PySem.W.codeIn K cd8 "filled" = true) (k8 : PySem.W.keepIn K (.ref f8) = true)
    {f9 : Addr} {od9 an9 : Option Addr} {sl9 : Array (Option Value)} {oc9 kV9 dc9 pm9 cd9 ct9 : Value}
    (a9 : PySem.W.nsIn K mainGlobals "is_teller" = some (some (.ref f9))) (l9 : K.lookup f9 = some ⟨oc9, od9, .func (PySem.W.fnOf "is_teller" "is_teller" (defArgs st_is_teller) (defBody st_is_teller) (defScope st_is_teller) .none kV9 dc9 pm9 an9 cd9 ct9), sl9⟩) (c9 : PySem.W.codeIn K cd9 "is_teller" = true) (k9 : PySem.W.keepIn K (.ref f9) = true)
    {f10 : Addr} {od10 an10 : Option Addr} {sl10 : Array (Option Value)} {oc10 kV10 dc10 pm10 cd10 ct10 : Value}
    (a10 : PySem.W.nsIn K mainGlobals "check_teller" = some (some (.ref f10))) (l10 : K.lookup f10 = some ⟨oc10, od10, .func (PySem.W.fnOf "check_teller" "check_teller" (defArgs st_check_teller) (defBody st_check_teller) (defScope st_check_teller) .none kV10 dc10 pm10 an10 cd10 ct10), sl10⟩) (c10 : PySem.W.codeIn K cd10 "check_teller" = true) (k10 : PySem.W.keepIn K (.ref f10) = true)
    {f11 : Addr} {od11 an11 : Option Addr} {sl11 : Array (Option Value)} {oc11 kV11 dc11 pm11 cd11 ct11 : Value}
    (a11 : PySem.W.nsIn K mainGlobals "_law_tape" = some (some (.ref f11))) (l11 : K.lookup f11 = some ⟨oc11, od11, .func (PySem.W.fnOf "_law_tape" "_law_tape" (defArgs st__law_tape) (defBody st__law_tape) (defScope st__law_tape) .none kV11 dc11 pm11 an11 cd11 ct11), sl11⟩) (c11 : PySem.W.codeIn K cd11 "_law_tape" = true) (k11 : PySem.W.keepIn K (.ref f11) = true)
    {f12 : Addr} {od12 an12 : Option Addr} {sl12 : Array (Option Value)} {oc12 kV12 dc12 pm12 cd12 ct12 : Value}
    (a12 : PySem.W.nsIn K mainGlobals "_law_draw" = some (some (.ref f12))) (l12 : K.lookup f12 = some ⟨oc12, od12, .func (PySem.W.fnOf "_law_draw" "_law_draw" (defArgs st__law_draw) (defBody st__law_draw) (defScope st__law_draw) .none kV12 dc12 pm12 an12 cd12 ct12), sl12⟩) (c12 : PySem.W.codeIn K cd12 "_law_draw" = true) (k12 : PySem.W.keepIn K (.ref f12) = true)
    {f13 : Addr} {od13 an13 : Option Addr} {sl13 : Array (Option Value)} {oc13 kV13 dc13 pm13 cd13 ct13 : Value}
    (a13 : PySem.W.nsIn K mainGlobals "_law_pick" = some (some (.ref f13))) (l13 : K.lookup f13 = some ⟨oc13, od13, .func (PySem.W.fnOf "_law_pick" "_law_pick" (defArgs st__law_pick) (defBody st__law_pick) (defScope st__law_pick) .none kV13 dc13 pm13 an13 cd13 ct13), sl13⟩) (c13 : PySem.W.codeIn K cd13 "_law_pick" = true) (k13 : PySem.W.keepIn K (.ref f13) = true)
    {f14 : Addr} {od14 an14 : Option Addr} {sl14 : Array (Option Value)} {oc14 kV14 dc14 pm14 cd14 ct14 : Value}
    (a14 : PySem.W.nsIn K mainGlobals "_law_operation" = some (some (.ref f14))) (l14 : K.lookup f14 = some ⟨oc14, od14, .func (PySem.W.fnOf "_law_operation" "_law_operation" (defArgs st__law_operation) (defBody st__law_operation) (defScope st__law_operation) .none kV14 dc14 pm14 an14 cd14 ct14), sl14⟩) (c14 : PySem.W.codeIn K cd14 "_law_operation" = true) (k14 : PySem.W.keepIn K (.ref f14) = true)
    {f15 : Addr} {od15 an15 : Option Addr} {sl15 : Array (Option Value)} {oc15 kV15 dc15 pm15 cd15 ct15 : Value}
    (a15 : PySem.W.nsIn K mainGlobals "_law_shape" = some (some (.ref f15))) (l15 : K.lookup f15 = some ⟨oc15, od15, .func (PySem.W.fnOf "_law_shape" "_law_shape" (defArgs st__law_shape) (defBody st__law_shape) (defScope st__law_shape) .none kV15 dc15 pm15 an15 cd15 ct15), sl15⟩) (c15 : PySem.W.codeIn K cd15 "_law_shape" = true) (k15 : PySem.W.keepIn K (.ref f15) = true)
    {f16 : Addr} {od16 an16 : Option Addr} {sl16 : Array (Option Value)} {oc16 kV16 dc16 pm16 cd16 ct16 : Value}
    (a16 : PySem.W.nsIn K mainGlobals "_law_test" = some (some (.ref f16))) (l16 : K.lookup f16 = some ⟨oc16, od16, .func (PySem.W.fnOf "_law_test" "_law_test" (defArgs st__law_test) (defBody st__law_test) (defScope st__law_test) .none kV16 dc16 pm16 an16 cd16 ct16), sl16⟩) (c16 : PySem.W.codeIn K cd16 "_law_test" = true) (k16 : PySem.W.keepIn K (.ref f16) = true)
    {f17 : Addr} {od17 an17 : Option Addr} {sl17 : Array (Option Value)} {oc17 kV17 dc17 pm17 cd17 ct17 : Value}
    (a17 : PySem.W.nsIn K mainGlobals "_law_do_row" = some (some (.ref f17))) (l17 : K.lookup f17 = some ⟨oc17, od17, .func (PySem.W.fnOf "_law_do_row" "_law_do_row" (defArgs st__law_do_row) (defBody st__law_do_row) (defScope st__law_do_row) .none kV17 dc17 pm17 an17 cd17 ct17), sl17⟩) (c17 : PySem.W.codeIn K cd17 "_law_do_row" = true) (k17 : PySem.W.keepIn K (.ref f17) = true)
    {f18 : Addr} {od18 an18 : Option Addr} {sl18 : Array (Option Value)} {oc18 kV18 dc18 pm18 cd18 ct18 : Value}
    (a18 : PySem.W.nsIn K mainGlobals "_law_block" = some (some (.ref f18))) (l18 : K.lookup f18 = some ⟨oc18, od18, .func (PySem.W.fnOf "_law_block" "_law_block" (defArgs st__law_block) (defBody st__law_block) (defScope st__law_block) .none kV18 dc18 pm18 an18 cd18 ct18), sl18⟩) (c18 : PySem.W.codeIn K cd18 "_law_block" = true) (k18 : PySem.W.keepIn K (.ref f18) = true)
    {f19 : Addr} {od19 an19 : Option Addr} {sl19 : Array (Option Value)} {oc19 kV19 dc19 pm19 cd19 ct19 : Value}
    (a19 : PySem.W.nsIn K mainGlobals "_law_teller" = some (some (.ref f19))) (l19 : K.lookup f19 = some ⟨oc19, od19, .func (PySem.W.fnOf "_law_teller" "_law_teller" (defArgs st__law_teller) (defBody st__law_teller) (defScope st__law_teller) .none kV19 dc19 pm19 an19 cd19 ct19), sl19⟩) (c19 : PySem.W.codeIn K cd19 "_law_teller" = true) (k19 : PySem.W.keepIn K (.ref f19) = true)
    {f20 : Addr} {od20 an20 : Option Addr} {sl20 : Array (Option Value)} {oc20 kV20 dc20 pm20 cd20 ct20 : Value}
    (a20 : PySem.W.nsIn K mainGlobals "_law_is_integer" = some (some (.ref f20))) (l20 : K.lookup f20 = some ⟨oc20, od20, .func (PySem.W.fnOf "_law_is_integer" "_law_is_integer" (defArgs st__law_is_integer) (defBody st__law_is_integer) (defScope st__law_is_integer) .none kV20 dc20 pm20 an20 cd20 ct20), sl20⟩) (c20 : PySem.W.codeIn K cd20 "_law_is_integer" = true) (k20 : PySem.W.keepIn K (.ref f20) = true)
    {f21 : Addr} {od21 an21 : Option Addr} {sl21 : Array (Option Value)} {oc21 kV21 dc21 pm21 cd21 ct21 : Value}
    (a21 : PySem.W.nsIn K mainGlobals "_law_is_operation" = some (some (.ref f21))) (l21 : K.lookup f21 = some ⟨oc21, od21, .func (PySem.W.fnOf "_law_is_operation" "_law_is_operation" (defArgs st__law_is_operation) (defBody st__law_is_operation) (defScope st__law_is_operation) .none kV21 dc21 pm21 an21 cd21 ct21), sl21⟩) (c21 : PySem.W.codeIn K cd21 "_law_is_operation" = true) (k21 : PySem.W.keepIn K (.ref f21) = true)
    {f22 : Addr} {od22 an22 : Option Addr} {sl22 : Array (Option Value)} {oc22 kV22 dc22 pm22 cd22 ct22 : Value}
    (a22 : PySem.W.nsIn K mainGlobals "_law_is_test" = some (some (.ref f22))) (l22 : K.lookup f22 = some ⟨oc22, od22, .func (PySem.W.fnOf "_law_is_test" "_law_is_test" (defArgs st__law_is_test) (defBody st__law_is_test) (defScope st__law_is_test) .none kV22 dc22 pm22 an22 cd22 ct22), sl22⟩) (c22 : PySem.W.codeIn K cd22 "_law_is_test" = true) (k22 : PySem.W.keepIn K (.ref f22) = true)
    {f23 : Addr} {od23 an23 : Option Addr} {sl23 : Array (Option Value)} {oc23 kV23 dc23 pm23 cd23 ct23 : Value}
    (a23 : PySem.W.nsIn K mainGlobals "_law_is_block" = some (some (.ref f23))) (l23 : K.lookup f23 = some ⟨oc23, od23, .func (PySem.W.fnOf "_law_is_block" "_law_is_block" (defArgs st__law_is_block) (defBody st__law_is_block) (defScope st__law_is_block) .none kV23 dc23 pm23 an23 cd23 ct23), sl23⟩) (c23 : PySem.W.codeIn K cd23 "_law_is_block" = true) (k23 : PySem.W.keepIn K (.ref f23) = true)
    {f24 : Addr} {od24 an24 : Option Addr} {sl24 : Array (Option Value)} {oc24 kV24 dc24 pm24 cd24 ct24 : Value}
    (a24 : PySem.W.nsIn K mainGlobals "_law_is_teller" = some (some (.ref f24))) (l24 : K.lookup f24 = some ⟨oc24, od24, .func (PySem.W.fnOf "_law_is_teller" "_law_is_teller" (defArgs st__law_is_teller) (defBody st__law_is_teller) (defScope st__law_is_teller) .none kV24 dc24 pm24 an24 cd24 ct24), sl24⟩) (c24 : PySem.W.codeIn K cd24 "_law_is_teller" = true) (k24 : PySem.W.keepIn K (.ref f24) = true)
    {f25 : Addr} {od25 an25 : Option Addr} {sl25 : Array (Option Value)} {oc25 kV25 dc25 pm25 cd25 ct25 : Value}
    (a25 : PySem.W.nsIn K mainGlobals "_law_other" = some (some (.ref f25))) (l25 : K.lookup f25 = some ⟨oc25, od25, .func (PySem.W.fnOf "_law_other" "_law_other" (defArgs st__law_other) (defBody st__law_other) (defScope st__law_other) .none kV25 dc25 pm25 an25 cd25 ct25), sl25⟩) (c25 : PySem.W.codeIn K cd25 "_law_other" = true) (k25 : PySem.W.keepIn K (.ref f25) = true)
    {f26 : Addr} {od26 an26 : Option Addr} {sl26 : Array (Option Value)} {oc26 kV26 dc26 pm26 cd26 ct26 : Value}
    (a26 : PySem.W.nsIn K mainGlobals "_law_deep" = some (some (.ref f26))) (l26 : K.lookup f26 = some ⟨oc26, od26, .func (PySem.W.fnOf "_law_deep" "_law_deep" (defArgs st__law_deep) (defBody st__law_deep) (defScope st__law_deep) .none kV26 dc26 pm26 an26 cd26 ct26), sl26⟩) (c26 : PySem.W.codeIn K cd26 "_law_deep" = true) (k26 : PySem.W.keepIn K (.ref f26) = true)
    {f27 : Addr} {od27 an27 : Option Addr} {sl27 : Array (Option Value)} {oc27 kV27 dc27 pm27 cd27 ct27 : Value}
    (a27 : PySem.W.nsIn K mainGlobals "_law_checked" = some (some (.ref f27))) (l27 : K.lookup f27 = some ⟨oc27, od27, .func (PySem.W.fnOf "_law_checked" "_law_checked" (defArgs st__law_checked) (defBody st__law_checked) (defScope st__law_checked) .none kV27 dc27 pm27 an27 cd27 ct27), sl27⟩) (c27 : PySem.W.codeIn K cd27 "_law_checked" = true) (k27 : PySem.W.keepIn K (.ref f27) = true)
    {f28 : Addr} {od28 an28 : Option Addr} {sl28 : Array (Option Value)} {oc28 kV28 dc28 pm28 cd28 ct28 : Value}
    (a28 : PySem.W.nsIn K mainGlobals "law" = some (some (.ref f28))) (l28 : K.lookup f28 = some ⟨oc28, od28, .func (PySem.W.fnOf "law" "law" (defArgs st_law) (defBody st_law) (defScope st_law) .none kV28 dc28 pm28 an28 cd28 ct28), sl28⟩) (c28 : PySem.W.codeIn K cd28 "law" = true) (k28 : PySem.W.keepIn K (.ref f28) = true)
    (z_isinstance : PySem.W.nsIn K mainGlobals "isinstance" = some none)
    (z_len : PySem.W.nsIn K mainGlobals "len" = some none)
    (z_all : PySem.W.nsIn K mainGlobals "all" = some none)
    (z_zip : PySem.W.nsIn K mainGlobals "zip" = some none)
    (z_tuple : PySem.W.nsIn K mainGlobals "tuple" = some none)
    (z_str : PySem.W.nsIn K mainGlobals "str" = some none)
    (z_int : PySem.W.nsIn K mainGlobals "int" = some none)
    (z_bool : PySem.W.nsIn K mainGlobals "bool" = some none)
    (z_abs : PySem.W.nsIn K mainGlobals "abs" = some none)
    (z_list : PySem.W.nsIn K mainGlobals "list" = some none)
    (z_range : PySem.W.nsIn K mainGlobals "range" = some none)
    (z_max : PySem.W.nsIn K mainGlobals "max" = some none)
    {t_LIMIT : Tok} (v_LIMIT : PySem.W.nsIn K mainGlobals "LIMIT" = some (some (.int 1000000000000000000 t_LIMIT)))
    {t_MOST_INDEX : Tok} (v_MOST_INDEX : PySem.W.nsIn K mainGlobals "MOST_INDEX" = some (some (.int 1000000000 t_MOST_INDEX)))
    {t_COUNTER : Tok} (v_COUNTER : PySem.W.nsIn K mainGlobals "COUNTER" = some (some (.str "counter" t_COUNTER)))
    {t_MOST_COUNTERS : Tok} (v_MOST_COUNTERS : PySem.W.nsIn K mainGlobals "MOST_COUNTERS" = some (some (.int 100 t_MOST_COUNTERS)))
    {t_MOST_DEEP : Tok} (v_MOST_DEEP : PySem.W.nsIn K mainGlobals "MOST_DEEP" = some (some (.int 20 t_MOST_DEEP)))
    {d_FORMS : Addr} {es_FORMS : Array DictEntry} {m_FORMS : Nat} (g_FORMS : PySem.W.nsIn K mainGlobals "FORMS" = some (some (.ref d_FORMS))) (l_FORMS : K.lookup d_FORMS = some ⟨.type "dict", none, .dict es_FORMS m_FORMS, #[]⟩) (y_FORMS : PySem.W.KeysLit w.params es_FORMS.toList) (w_FORMS : (d_FORMS == sysModules) = false) (e_FORMS : EntR formL es_FORMS.toList)
    {d_WORDS : Addr} {o_WORDS : Obj} {s_WORDS : Array Value} {m_WORDS : Nat} (g_WORDS : PySem.W.nsIn K mainGlobals "WORDS" = some (some (.ref d_WORDS))) (l_WORDS : K.lookup d_WORDS = some o_WORDS) (y_WORDS : o_WORDS.cls = .type "tuple") (w_WORDS : o_WORDS.data = .seq s_WORDS m_WORDS) (b_WORDS : s_WORDS.size ≤ sizeLine) (e_WORDS : Vals (answerW.map V.str) s_WORDS.toList) :
    ∃ fd : FuncData, (∀ (s : Shared) (v : Value), BindsTo s fd ⟨[v], []⟩ [("script", v)]) ∧ ∀ base : Heap, K.In base → base.Ns mainGlobals mg → FnOk l.prog w K mg base CX0 73 fa fd ["script"] (sp_lawT K) := by
  have e := hfa.symm.trans (PySem.W.mg_of X G a28)
  cases e
  have T : Txt K mg := { n_isinstance := PySem.W.mg_none_of X G z_isinstance, n_len := PySem.W.mg_none_of X G z_len, n_all := PySem.W.mg_none_of X G z_all, n_zip := PySem.W.mg_none_of X G z_zip, n_tuple := PySem.W.mg_none_of X G z_tuple, n_str := PySem.W.mg_none_of X G z_str, n_int := PySem.W.mg_none_of X G z_int, n_bool := PySem.W.mg_none_of X G z_bool, n_abs := PySem.W.mg_none_of X G z_abs, n_list := PySem.W.mg_none_of X G z_list, n_range := PySem.W.mg_none_of X G z_range, n_max := PySem.W.mg_none_of X G z_max, c_LIMIT := ⟨_, PySem.W.mg_of X G v_LIMIT, ⟨_, rfl⟩⟩, c_MOST_INDEX := ⟨_, PySem.W.mg_of X G v_MOST_INDEX, ⟨_, rfl⟩⟩, c_COUNTER := ⟨_, PySem.W.mg_of X G v_COUNTER, ⟨_, rfl⟩⟩, c_MOST_COUNTERS := ⟨_, PySem.W.mg_of X G v_MOST_COUNTERS, ⟨_, rfl⟩⟩, c_MOST_DEEP := ⟨_, PySem.W.mg_of X G v_MOST_DEEP, ⟨_, rfl⟩⟩ }
  have XX_BadTeller : XCls K mg "BadTeller" X0 := ⟨PySem.W.mg_of X G gX0, xX0, kX0, eX0, tX0, isX0, sfX0⟩
  have S_Form : SrcC K mg "Form" C "Form.__init__" st_Form_init ["self", "count", "roots", "registers"] := ⟨fC_init, _, PySem.W.mg_of X G gC, ⟨mkC, aC_init, iC_init, kpC⟩, fun_mk (st := st_Form_init) lC_init cC_init kC_init, (fun_mk (st := st_Form_init) lC_init cC_init kC_init).binds (ps := ["self", "count", "roots", "registers"]) fun _ _ _ _ _ _ us hl => match us, hl with | [_, _, _, _], _ => rfl⟩
  have S_Form_is_block : SrcM K C "is_block" "Form.is_block" st_Form_is_block ["self", "value", "depth"] := ⟨fC_is_block, _, ⟨aC_is_block, iC_is_block, kC_is_block⟩, fun_mk (st := st_Form_is_block) lC_is_block cC_is_block kC_is_block, (fun_mk (st := st_Form_is_block) lC_is_block cC_is_block kC_is_block).binds (ps := ["self", "value", "depth"]) fun _ _ _ _ _ _ us hl => match us, hl with | [_, _, _], _ => rfl⟩
  have S_Form_is_do : SrcM K C "is_do" "Form.is_do" st_Form_is_do ["self", "operation"] := ⟨fC_is_do, _, ⟨aC_is_do, iC_is_do, kC_is_do⟩, fun_mk (st := st_Form_is_do) lC_is_do cC_is_do kC_is_do, (fun_mk (st := st_Form_is_do) lC_is_do cC_is_do kC_is_do).binds (ps := ["self", "operation"]) fun _ _ _ _ _ _ us hl => match us, hl with | [_, _], _ => rfl⟩
  have S_Form_is_statement : SrcM K C "is_statement" "Form.is_statement" st_Form_is_statement ["self", "value", "depth"] := ⟨fC_is_statement, _, ⟨aC_is_statement, iC_is_statement, kC_is_statement⟩, fun_mk (st := st_Form_is_statement) lC_is_statement cC_is_statement kC_is_statement, (fun_mk (st := st_Form_is_statement) lC_is_statement cC_is_statement kC_is_statement).binds (ps := ["self", "value", "depth"]) fun _ _ _ _ _ _ us hl => match us, hl with | [_, _, _], _ => rfl⟩
  have S_is_integer : Src K mg "is_integer" st_is_integer ["value"] := ⟨f1, _, PySem.W.mg_of X G a1, fun_mk (st := st_is_integer) l1 c1 k1, (fun_mk (st := st_is_integer) l1 c1 k1).binds (ps := ["value"]) fun _ _ _ _ _ _ us hl => match us, hl with | [_], _ => rfl⟩
  have S_is_count : Src K mg "is_count" st_is_count ["value"] := ⟨f2, _, PySem.W.mg_of X G a2, fun_mk (st := st_is_count) l2 c2 k2, (fun_mk (st := st_is_count) l2 c2 k2).binds (ps := ["value"]) fun _ _ _ _ _ _ us hl => match us, hl with | [_], _ => rfl⟩
  have S_is_index : Src K mg "is_index" st_is_index ["value", "count"] := ⟨f3, _, PySem.W.mg_of X G a3, fun_mk (st := st_is_index) l3 c3 k3, (fun_mk (st := st_is_index) l3 c3 k3).binds (ps := ["value", "count"]) fun _ _ _ _ _ _ us hl => match us, hl with | [_, _], _ => rfl⟩
  have S_is_number : Src K mg "is_number" st_is_number ["value"] := ⟨f4, _, PySem.W.mg_of X G a4, fun_mk (st := st_is_number) l4 c4 k4, (fun_mk (st := st_is_number) l4 c4 k4).binds (ps := ["value"]) fun _ _ _ _ _ _ us hl => match us, hl with | [_], _ => rfl⟩
  have S_is_part : Src K mg "is_part" st_is_part ["kind", "value", "roots", "registers"] := ⟨f5, _, PySem.W.mg_of X G a5, fun_mk (st := st_is_part) l5 c5 k5, (fun_mk (st := st_is_part) l5 c5 k5).binds (ps := ["kind", "value", "roots", "registers"]) fun _ _ _ _ _ _ us hl => match us, hl with | [_, _, _, _], _ => rfl⟩
  have S_is_operation : SrcK K mg "is_operation" st_is_operation ["value", "roots", "registers"] 1 ["roots", "registers"] := ⟨f6, _, PySem.W.mg_of X G a6, fun_mk (st := st_is_operation) l6 c6 k6, kbn_of fun us ws h1 h2 => match us, h1, ws, h2 with | [_], _, [_, _], _ => rfl⟩
  have S_is_test : Src K mg "is_test" st_is_test ["value", "count", "depth"] := ⟨f7, _, PySem.W.mg_of X G a7, fun_mk (st := st_is_test) l7 c7 k7, (fun_mk (st := st_is_test) l7 c7 k7).binds (ps := ["value", "count", "depth"]) fun _ _ _ _ _ _ us hl => match us, hl with | [_, _, _], _ => rfl⟩
  have S_filled : Src K mg "filled" st_filled ["operation", "counters"] := ⟨f8, _, PySem.W.mg_of X G a8, fun_mk (st := st_filled) l8 c8 k8, (fun_mk (st := st_filled) l8 c8 k8).binds (ps := ["operation", "counters"]) fun _ _ _ _ _ _ us hl => match us, hl with | [_, _], _ => rfl⟩
  have S_is_teller : SrcK K mg "is_teller" st_is_teller ["value", "roots", "registers"] 1 ["roots", "registers"] := ⟨f9, _, PySem.W.mg_of X G a9, fun_mk (st := st_is_teller) l9 c9 k9, kbn_of fun us ws h1 h2 => match us, h1, ws, h2 with | [_], _, [_, _], _ => rfl⟩
  have S_check_teller : SrcK K mg "check_teller" st_check_teller ["teller", "roots", "registers"] 1 ["roots", "registers"] := ⟨f10, _, PySem.W.mg_of X G a10, fun_mk (st := st_check_teller) l10 c10 k10, kbn_of fun us ws h1 h2 => match us, h1, ws, h2 with | [_], _, [_, _], _ => rfl⟩
  have S__law_tape : Src K mg "_law_tape" st__law_tape ["script"] := ⟨f11, _, PySem.W.mg_of X G a11, fun_mk (st := st__law_tape) l11 c11 k11, (fun_mk (st := st__law_tape) l11 c11 k11).binds (ps := ["script"]) fun _ _ _ _ _ _ us hl => match us, hl with | [_], _ => rfl⟩
  have S__law_draw : Src K mg "_law_draw" st__law_draw ["tape", "many"] := ⟨f12, _, PySem.W.mg_of X G a12, fun_mk (st := st__law_draw) l12 c12 k12, (fun_mk (st := st__law_draw) l12 c12 k12).binds (ps := ["tape", "many"]) fun _ _ _ _ _ _ us hl => match us, hl with | [_, _], _ => rfl⟩
  have S__law_pick : Src K mg "_law_pick" st__law_pick ["tape", "row"] := ⟨f13, _, PySem.W.mg_of X G a13, fun_mk (st := st__law_pick) l13 c13 k13, (fun_mk (st := st__law_pick) l13 c13 k13).binds (ps := ["tape", "row"]) fun _ _ _ _ _ _ us hl => match us, hl with | [_, _], _ => rfl⟩
  have S__law_operation : Src K mg "_law_operation" st__law_operation ["tape", "roots", "registers"] := ⟨f14, _, PySem.W.mg_of X G a14, fun_mk (st := st__law_operation) l14 c14 k14, (fun_mk (st := st__law_operation) l14 c14 k14).binds (ps := ["tape", "roots", "registers"]) fun _ _ _ _ _ _ us hl => match us, hl with | [_, _, _], _ => rfl⟩
  have S__law_shape : Src K mg "_law_shape" st__law_shape ["tape"] := ⟨f15, _, PySem.W.mg_of X G a15, fun_mk (st := st__law_shape) l15 c15 k15, (fun_mk (st := st__law_shape) l15 c15 k15).binds (ps := ["tape"]) fun _ _ _ _ _ _ us hl => match us, hl with | [_], _ => rfl⟩
  have S__law_test : Src K mg "_law_test" st__law_test ["tape", "count", "depth"] := ⟨f16, _, PySem.W.mg_of X G a16, fun_mk (st := st__law_test) l16 c16 k16, (fun_mk (st := st__law_test) l16 c16 k16).binds (ps := ["tape", "count", "depth"]) fun _ _ _ _ _ _ us hl => match us, hl with | [_, _, _], _ => rfl⟩
  have S__law_do_row : Src K mg "_law_do_row" st__law_do_row ["tape", "shape", "count"] := ⟨f17, _, PySem.W.mg_of X G a17, fun_mk (st := st__law_do_row) l17 c17 k17, (fun_mk (st := st__law_do_row) l17 c17 k17).binds (ps := ["tape", "shape", "count"]) fun _ _ _ _ _ _ us hl => match us, hl with | [_, _, _], _ => rfl⟩
  have S__law_block : Src K mg "_law_block" st__law_block ["tape", "shape", "count", "depth", "many"] := ⟨f18, _, PySem.W.mg_of X G a18, fun_mk (st := st__law_block) l18 c18 k18, (fun_mk (st := st__law_block) l18 c18 k18).binds (ps := ["tape", "shape", "count", "depth", "many"]) fun _ _ _ _ _ _ us hl => match us, hl with | [_, _, _, _, _], _ => rfl⟩
  have S__law_teller : Src K mg "_law_teller" st__law_teller ["tape", "shape"] := ⟨f19, _, PySem.W.mg_of X G a19, fun_mk (st := st__law_teller) l19 c19 k19, (fun_mk (st := st__law_teller) l19 c19 k19).binds (ps := ["tape", "shape"]) fun _ _ _ _ _ _ us hl => match us, hl with | [_, _], _ => rfl⟩
  have S__law_is_integer : Src K mg "_law_is_integer" st__law_is_integer ["value", "least", "most"] := ⟨f20, _, PySem.W.mg_of X G a20, fun_mk (st := st__law_is_integer) l20 c20 k20, (fun_mk (st := st__law_is_integer) l20 c20 k20).binds (ps := ["value", "least", "most"]) fun _ _ _ _ _ _ us hl => match us, hl with | [_, _, _], _ => rfl⟩
  have S__law_is_operation : Src K mg "_law_is_operation" st__law_is_operation ["value", "count", "roots", "registers"] := ⟨f21, _, PySem.W.mg_of X G a21, fun_mk (st := st__law_is_operation) l21 c21 k21, (fun_mk (st := st__law_is_operation) l21 c21 k21).binds (ps := ["value", "count", "roots", "registers"]) fun _ _ _ _ _ _ us hl => match us, hl with | [_, _, _, _], _ => rfl⟩
  have S__law_is_test : Src K mg "_law_is_test" st__law_is_test ["value", "count", "depth"] := ⟨f22, _, PySem.W.mg_of X G a22, fun_mk (st := st__law_is_test) l22 c22 k22, (fun_mk (st := st__law_is_test) l22 c22 k22).binds (ps := ["value", "count", "depth"]) fun _ _ _ _ _ _ us hl => match us, hl with | [_, _, _], _ => rfl⟩
  have S__law_is_block : Src K mg "_law_is_block" st__law_is_block ["value", "count", "shape", "depth"] := ⟨f23, _, PySem.W.mg_of X G a23, fun_mk (st := st__law_is_block) l23 c23 k23, (fun_mk (st := st__law_is_block) l23 c23 k23).binds (ps := ["value", "count", "shape", "depth"]) fun _ _ _ _ _ _ us hl => match us, hl with | [_, _, _, _], _ => rfl⟩
  have S__law_is_teller : Src K mg "_law_is_teller" st__law_is_teller ["value", "shape"] := ⟨f24, _, PySem.W.mg_of X G a24, fun_mk (st := st__law_is_teller) l24 c24 k24, (fun_mk (st := st__law_is_teller) l24 c24 k24).binds (ps := ["value", "shape"]) fun _ _ _ _ _ _ us hl => match us, hl with | [_, _], _ => rfl⟩
  have S__law_other : Src K mg "_law_other" st__law_other ["tape", "value", "deep"] := ⟨f25, _, PySem.W.mg_of X G a25, fun_mk (st := st__law_other) l25 c25 k25, (fun_mk (st := st__law_other) l25 c25 k25).binds (ps := ["tape", "value", "deep"]) fun _ _ _ _ _ _ us hl => match us, hl with | [_, _, _], _ => rfl⟩
  have S__law_deep : Src K mg "_law_deep" st__law_deep ["tape", "count"] := ⟨f26, _, PySem.W.mg_of X G a26, fun_mk (st := st__law_deep) l26 c26 k26, (fun_mk (st := st__law_deep) l26 c26 k26).binds (ps := ["tape", "count"]) fun _ _ _ _ _ _ us hl => match us, hl with | [_, _], _ => rfl⟩
  have S__law_checked : Src K mg "_law_checked" st__law_checked ["value", "shape"] := ⟨f27, _, PySem.W.mg_of X G a27, fun_mk (st := st__law_checked) l27 c27 k27, (fun_mk (st := st__law_checked) l27 c27 k27).binds (ps := ["value", "shape"]) fun _ _ _ _ _ _ us hl => match us, hl with | [_, _], _ => rfl⟩
  have FL := fun_mk (st := st_law) l28 c28 k28
  have TT : TTxt K C := ⟨⟨pgC, hdC, poC, saC⟩, nC_count, nC_roots, nC_registers⟩
  have FT : FTxt K w mg d_FORMS d_WORDS es_FORMS m_FORMS := ⟨⟨_, PySem.W.mg_of X G g_FORMS, rfl⟩, ⟨_, PySem.W.mg_of X G g_WORDS, rfl⟩, ⟨l_FORMS, y_FORMS, w_FORMS⟩, e_FORMS, fun H => .inr ⟨o_WORDS, s_WORDS, m_WORDS, l_WORDS, y_WORDS, w_WORDS, b_WORDS, e_WORDS⟩⟩
  refine ⟨PySem.W.fnOf "law" "law" (defArgs st_law) (defBody st_law) (defScope st_law) .none kV28 dc28 pm28 an28 cd28 ct28, fun s v => .of_eq rfl, fun base _ _ => ?_⟩
  have C_is_integer := cal_is_integer (P := l.prog) (w := w) (base := base) S_is_integer T
  have C_is_count := cal_is_count S_is_count T C_is_integer
  have C_is_index := cal_is_index S_is_index T C_is_count
  have C_is_number := cal_is_number S_is_number T C_is_integer
  have C_is_part := cal_is_part S_is_part T C_is_integer
  have C_is_operation := cal_is_operation S_is_operation T FT C_is_part
  have C_is_test := cal_is_test S_is_test T FT C_is_index C_is_number 21
  have C_filled := cal_filled S_filled T C_is_index
  have C_Form := cal_Form (P := l.prog) (w := w) (base := base) S_Form T TT
  have M_is_do := cal_do S_Form_is_do T TT C_filled C_is_operation
  have M_is_block := cal_stm_block S_Form_is_statement S_Form_is_block T TT M_is_do C_is_index C_is_number C_is_test 21 (Nat.le_refl _)
  have C_is_teller := cal_is_teller S_is_teller T TT C_is_count C_Form M_is_block
  have C_check_teller := cal_check_teller S_check_teller T XX_BadTeller C_is_teller
  have C__law_checked := cal__law_checked S__law_checked T XX_BadTeller C_check_teller
  have C__law_tape := cal__law_tape (P := l.prog) (w := w) (base := base) S__law_tape T
  have C__law_draw := cal__law_draw (P := l.prog) (w := w) (base := base) S__law_draw T
  have C__law_pick := cal__law_pick S__law_pick T C__law_draw
  have C__law_operation := cal__law_operation S__law_operation T C__law_draw C__law_pick
  have C__law_shape := cal__law_shape S__law_shape T C__law_draw
  have C__law_test := cal__law_test S__law_test T C__law_draw C__law_pick 2
  have C__law_do_row := cal__law_do_row S__law_do_row T C__law_draw C__law_operation
  have C__law_block := cal__law_block S__law_block T C__law_draw C__law_pick C__law_test C__law_do_row 2
  have C__law_teller := cal__law_teller S__law_teller T C__law_draw C__law_block
  have C__law_is_integer := cal__law_is_integer (P := l.prog) (w := w) (base := base) S__law_is_integer T
  have C__law_is_operation := cal__law_is_operation S__law_is_operation T C__law_is_integer
  have C__law_is_test := cal__law_is_test S__law_is_test T C__law_is_integer
  have C__law_is_block := cal__law_is_block S__law_is_block T C__law_is_integer C__law_is_operation C__law_is_test 21
  have C__law_is_teller := cal__law_is_teller S__law_is_teller T C__law_is_integer C__law_is_block
  have C__law_other := cal__law_other S__law_other T C__law_draw C__law_pick 9
  have C__law_deep := cal__law_deep S__law_deep T C__law_draw C__law_pick
  exact lawT (law_body FL T C__law_tape C__law_draw C__law_pick C__law_shape C__law_teller C__law_deep C__law_other C__law_is_teller C_is_teller C__law_checked)
end
theorem walk {l : PySem.W.OpenLaw} {q : Program} {loose : List Str} {XP : (Str → Option Value) → Heap → Prop} {YP : World → Heap → Prop} {d : DefRec} {K : Params → PySem.W.Frag} (hn : l.most = some 63) (hdf : d.params.defaults = [])
    (hY : ∀ (w : World) (h : Heap), YP w h → (K w.params).In h)
    (F : ∀ (w : World) (mg : Str → Option Value) (fa : Addr) (h : Heap), (K w.params).In h → h.Ns mainGlobals mg → mg d.name = some (.ref fa) →
      ∃ fd : FuncData, (∀ (s : Shared) (u : Value), BindsTo s fd ⟨[u], []⟩ [("script", u)]) ∧ ∀ base : Heap, (K w.params).In base → base.Ns mainGlobals mg → FnOk l.prog w (K w.params) mg base CX0 73 fa fd ["script"] (sp_lawT (K w.params))) :
    PySem.W.WalkO q loose XP YP l.row.toRowW d [] (fun f vs => PySem.call f vs) :=
  L2.walk_of (n := 63) (k := 73) (x := "script") (CX := fun _ => CX0) (sp := fun w => sp_lawT (K w.params)) hn (by decide) hdf ⟨rfl, by decide, by decide⟩ hY F (fun _ _ a ns hl _ hS => ⟨a, ns, rfl, hS, hl, fun _ => rfl⟩) fun _ _ _ _ _ z => z
end K96
open PySem PySem.W PyProof.Rows
set_option maxRecDepth 100000 in
set_option maxHeartbeats 0 in
theorem PySem.Challenge.cw_gleanworld_k96_what_is_a_teller_holds : PySem.Challenge.rw_gleanworld_k96_what_is_a_teller.Holds := by
  w_on; o_law; k_head; (case hw => w_witness2)
  k_fill
  refine K96.walk (l := PySem.Challenge.rw_gleanworld_k96_what_is_a_teller) rfl rfl (fun w h Y => PySem.W.kIn_of Y) ?F
  case F =>
    intro w mg fa h KX G hmg
    refine' K96.all_mk KX G hmg ?gX0 ?xX0 ?kX0 ?eX0 ?tX0 ?isX0 ?sfX0 ?gC ?pgC ?hdC ?poC ?saC ?mkC ?kpC ?nC_count ?nC_roots ?nC_registers ?aC_init ?lC_init ?cC_init ?kC_init ?iC_init ?aC_is_block ?lC_is_block ?cC_is_block ?kC_is_block ?iC_is_block ?aC_is_do ?lC_is_do ?cC_is_do ?kC_is_do ?iC_is_do ?aC_is_statement ?lC_is_statement ?cC_is_statement ?kC_is_statement ?iC_is_statement ?a1 ?l1 ?c1 ?k1 ?a2 ?l2 ?c2 ?k2 ?a3 ?l3 ?c3 ?k3 ?a4 ?l4 ?c4 ?k4 ?a5 ?l5 ?c5 ?k5 ?a6 ?l6 ?c6 ?k6 ?a7 ?l7 ?c7 ?k7 ?a8 ?l8 ?c8 ?k8 ?a9 ?l9 ?c9 ?k9 ?a10 ?l10 ?c10 ?k10 ?a11 ?l11 ?c11 ?k11 ?a12 ?l12 ?c12 ?k12 ?a13 ?l13 ?c13 ?k13 ?a14 ?l14 ?c14 ?k14 ?a15 ?l15 ?c15 ?k15 ?a16 ?l16 ?c16 ?k16 ?a17 ?l17 ?c17 ?k17 ?a18 ?l18 ?c18 ?k18 ?a19 ?l19 ?c19 ?k19 ?a20 ?l20 ?c20 ?k20 ?a21 ?l21 ?c21 ?k21 ?a22 ?l22 ?c22 ?k22 ?a23 ?l23 ?c23 ?k23 ?a24 ?l24 ?c24 ?k24 ?a25 ?l25 ?c25 ?k25 ?a26 ?l26 ?c26 ?k26 ?a27 ?l27 ?c27 ?k27 ?a28 ?l28 ?c28 ?k28 ?z_isinstance ?z_len ?z_all ?z_zip ?z_tuple ?z_str ?z_int ?z_bool ?z_abs ?z_list ?z_range ?z_max ?v_LIMIT ?v_MOST_INDEX ?v_COUNTER ?v_MOST_COUNTERS ?v_MOST_DEEP ?g_FORMS ?l_FORMS ?y_FORMS ?w_FORMS ?e_FORMS ?g_WORDS ?l_WORDS ?y_WORDS ?w_WORDS ?b_WORDS ?e_WORDS
    (case gX0 => k_is); (case xX0 => k_exc); (case kX0 => k_is); (case eX0 => k_is); (case tX0 => k_is); (case isX0 => k_is); (case sfX0 => first | rfl | k_is)
    (case gC => k_is); (case pgC => k_is); (case hdC => k_is); (case poC => k_is); (case saC => k_is); (case mkC => k_is); (case kpC => k_is); (case nC_count => k_is); (case nC_roots => k_is); (case nC_registers => k_is)
    (case aC_init => k_is); (case lC_init => k_is); (case cC_init => k_is); (case kC_init => k_is); (case iC_init => k_is)
    (case aC_is_block => k_is); (case lC_is_block => k_is); (case cC_is_block => k_is); (case kC_is_block => k_is); (case iC_is_block => k_is)
    (case aC_is_do => k_is); (case lC_is_do => k_is); (case cC_is_do => k_is); (case kC_is_do => k_is); (case iC_is_do => k_is)
    (case aC_is_statement => k_is); (case lC_is_statement => k_is); (case cC_is_statement => k_is); (case kC_is_statement => k_is); (case iC_is_statement => k_is)
    (case a1 => k_is); (case l1 => k_is); (case c1 => k_is); (case k1 => k_is)
    (case a2 => k_is); (case l2 => k_is); (case c2 => k_is); (case k2 => k_is)
    (case a3 => k_is); (case l3 => k_is); (case c3 => k_is); (case k3 => k_is)
    (case a4 => k_is); (case l4 => k_is); (case c4 => k_is); (case k4 => k_is)
    (case a5 => k_is); (case l5 => k_is); (case c5 => k_is); (case k5 => k_is)
    (case a6 => k_is); (case l6 => k_is); (case c6 => k_is); (case k6 => k_is)
    (case a7 => k_is); (case l7 => k_is); (case c7 => k_is); (case k7 => k_is)
    (case a8 => k_is); (case l8 => k_is); (case c8 => k_is); (case k8 => k_is)
    (case a9 => k_is); (case l9 => k_is); (case c9 => k_is); (case k9 => k_is)
    (case a10 => k_is); (case l10 => k_is); (case c10 => k_is); (case k10 => k_is)
    (case a11 => k_is); (case l11 => k_is); (case c11 => k_is); (case k11 => k_is)
    (case a12 => k_is); (case l12 => k_is); (case c12 => k_is); (case k12 => k_is)
    (case a13 => k_is); (case l13 => k_is); (case c13 => k_is); (case k13 => k_is)
    (case a14 => k_is); (case l14 => k_is); (case c14 => k_is); (case k14 => k_is)
    (case a15 => k_is); (case l15 => k_is); (case c15 => k_is); (case k15 => k_is)
    (case a16 => k_is); (case l16 => k_is); (case c16 => k_is); (case k16 => k_is)
    (case a17 => k_is); (case l17 => k_is); (case c17 => k_is); (case k17 => k_is)
    (case a18 => k_is); (case l18 => k_is); (case c18 => k_is); (case k18 => k_is)
    (case a19 => k_is); (case l19 => k_is); (case c19 => k_is); (case k19 => k_is)
    (case a20 => k_is); (case l20 => k_is); (case c20 => k_is); (case k20 => k_is)
    (case a21 => k_is); (case l21 => k_is); (case c21 => k_is); (case k21 => k_is)
    (case a22 => k_is); (case l22 => k_is); (case c22 => k_is); (case k22 => k_is)
    (case a23 => k_is); (case l23 => k_is); (case c23 => k_is); (case k23 => k_is)
    (case a24 => k_is); (case l24 => k_is); (case c24 => k_is); (case k24 => k_is)
    (case a25 => k_is); (case l25 => k_is); (case c25 => k_is); (case k25 => k_is)
    (case a26 => k_is); (case l26 => k_is); (case c26 => k_is); (case k26 => k_is)
    (case a27 => k_is); (case l27 => k_is); (case c27 => k_is); (case k27 => k_is)
    (case a28 => k_is); (case l28 => k_is); (case c28 => k_is); (case k28 => k_is)
    (case z_isinstance => k_is); (case z_len => k_is); (case z_all => k_is); (case z_zip => k_is); (case z_tuple => k_is); (case z_str => k_is); (case z_int => k_is); (case z_bool => k_is); (case z_abs => k_is); (case z_list => k_is); (case z_range => k_is); (case z_max => k_is)
    (case v_LIMIT => k_is); (case v_MOST_INDEX => k_is); (case v_COUNTER => k_is); (case v_MOST_COUNTERS => k_is); (case v_MOST_DEEP => k_is)
    (case g_FORMS => k_is); (case l_FORMS => k_is); (case y_FORMS => repeat (first | exact trivial | refine ⟨⟨_, _, rfl, rfl⟩, ?_⟩)); (case w_FORMS => first | rfl | decide); (case e_FORMS => repeat (first | exact K96.EntR.nil | refine K96.EntR.cons _ _ rfl rfl ?_))
    (case g_WORDS => k_is); (case l_WORDS => k_is); (case y_WORDS => rfl); (case w_WORDS => rfl); (case b_WORDS => decide); (case e_WORDS => repeat (first | exact Vals.nil | exact .nil | refine .cons ⟨_, rfl⟩ ?_))

import PyProof.Rows.All
import Wide.All
import OpenK.AllK
import Wide.FinOn
import HandS.ForMost
import HandS.ForExc
import HandS.Evl
import HandS.Walk
import HandS.Zip
import HandS.IsInst
import HandS.TupAny
import HandS.Steps
import HandS.Iter
import HandS.Text
import HandS.Comp
import HandS.ExcInit
import HandS.ExcField
import HandS.ExcBuiltin
import HandS.EndBits
import HandS.Small
import HandS.Flow
import KE.KDictPairs
import HandS.ListItems
import PyProof.TupleOfSeq
import PyProof.RulesMatchSeq
import PyProof.Rows.MatchSeqLen
import PyProof.EnumMake
import PyProof.Draws
import KE.GoesMore
import HandS.Deep
import PySem.Challenge.RW_gleanworld_k35_whole_what_keeps_kinds
import HandS.Style
set_option Elab.async false
set_option linter.all false
set_option maxRecDepth 100000
set_option maxHeartbeats 2000000
/-! Pd: immutable data over the abstract heap, and what expressions evaluate to as data. -/
namespace Pd
open PySem L2 Evl

mutual
/-- v is data d in H: tuples and lists are tracked there -/
inductive Im (H : Hp) : V → PyData → Prop
  | non : Im H .non .none
  | bl (b : Bool) : Im H (.bl b) (.bool b)
  | int (i : Int) : Im H (.int i) (.int i)
  | str (x : Str) : Im H (.str x) (.str x)
  | lst {a : Addr} {xs : List V} {ds : List PyData} : H a = some (.lst xs) → Ims H xs ds → Im H (.ref a) (.list ds)
  | tup {a : Addr} {xs : List V} {ds : List PyData} : H a = some (.tup xs) → Ims H xs ds → Im H (.ref a) (.tuple ds)
inductive Ims (H : Hp) : List V → List PyData → Prop
  | nil : Ims H [] []
  | cons {v : V} {vs : List V} {d : PyData} {ds : List PyData} : Im H v d → Ims H vs ds → Ims H (v :: vs) (d :: ds)
end

mutual
theorem Im.mono {H H' : Hp} (e : Ex H H') : ∀ {d : PyData} {v : V}, Im H v d → Im H' v d
  | .none, _, h => by cases h; exact .non
  | .bool _, _, h => by cases h; exact .bl _
  | .int _, _, h => by cases h; exact .int _
  | .str _, _, h => by cases h; exact .str _
  | .list ds, _, h => by cases h with | lst h1 h2 => exact .lst (e _ _ h1) (Ims.mono e h2)
  | .tuple ds, _, h => by cases h with | tup h1 h2 => exact .tup (e _ _ h1) (Ims.mono e h2)
  | .dict _, _, h => by cases h
theorem Ims.mono {H H' : Hp} (e : Ex H H') : ∀ {ds : List PyData} {vs : List V}, Ims H vs ds → Ims H' vs ds
  | [], _, h => by cases h; exact .nil
  | d :: ds, _, h => by cases h with | cons h1 h2 => exact .cons (Im.mono e h1) (Ims.mono e h2)
end

mutual
/-- no list within -/
def still : PyData → Bool
  | .list _ => false
  | .dict _ => false
  | .tuple ds => stills ds
  | _ => true
def stills : List PyData → Bool
  | [] => true
  | d :: ds => still d && stills ds
end
/-- the tuples stay -/
def Tx (H H' : Hp) : Prop := ∀ a xs, H a = some (.tup xs) → H' a = some (.tup xs)
theorem Tx.refl (H : Hp) : Tx H H := fun _ _ h => h
theorem Tx.trans {H H1 H2 : Hp} (a : Tx H H1) (b : Tx H1 H2) : Tx H H2 := fun x o h => b x o (a x o h)
theorem Tx.of {H H' : Hp} (e : Ex H H') : Tx H H' := fun a xs h => e a _ h
mutual
theorem Im.tx {H H' : Hp} (e : Tx H H') : ∀ {d : PyData} {v : V}, still d = true → Im H v d → Im H' v d
  | .none, _, _, h => by cases h; exact .non
  | .bool _, _, _, h => by cases h; exact .bl _
  | .int _, _, _, h => by cases h; exact .int _
  | .str _, _, _, h => by cases h; exact .str _
  | .list ds, _, s, h => by cases s
  | .tuple ds, _, s, h => by cases h with | tup h1 h2 => exact .tup (e _ _ h1) (Ims.tx e s h2)
  | .dict _, _, _, h => by cases h
theorem Ims.tx {H H' : Hp} (e : Tx H H') : ∀ {ds : List PyData} {vs : List V}, stills ds = true → Ims H vs ds → Ims H' vs ds
  | [], _, _, h => by cases h; exact .nil
  | d :: ds, _, s, h => by
    cases h with
    | cons h1 h2 =>
      have s' : still d = true ∧ stills ds = true := Bool.and_eq_true_iff.mp s
      exact .cons (Im.tx e s'.1 h1) (Ims.tx e s'.2 h2)
end

theorem Ims.length {H : Hp} : ∀ {ds : List PyData} {vs : List V}, Ims H vs ds → vs.length = ds.length
  | [], _, h => by cases h; rfl
  | d :: ds, _, h => by cases h with | cons h1 h2 => simp [Ims.length h2]
theorem Ims.get {H : Hp} : ∀ {ds : List PyData} {vs : List V} {i : Nat} {v : V}, Ims H vs ds → vs[i]? = some v → ∃ d, ds[i]? = some d ∧ Im H v d
  | [], _, _, _, h, e => by cases h; simp at e
  | d :: ds, _, 0, v, h, e => by cases h with | cons h1 h2 => simp at e; subst e; exact ⟨d, rfl, h1⟩
  | d :: ds, _, i + 1, v, h, e => by cases h with | cons h1 h2 => exact Ims.get (i := i) h2 (by simpa using e)
theorem Ims.getD {H : Hp} : ∀ {ds : List PyData} {vs : List V} {i : Nat} {d : PyData}, Ims H vs ds → ds[i]? = some d → ∃ v, vs[i]? = some v ∧ Im H v d
  | [], _, _, _, h, e => by simp at e
  | d :: ds, _, 0, v, h, e => by cases h with | cons h1 h2 => simp at e; subst e; exact ⟨_, rfl, h1⟩
  | d :: ds, _, i + 1, v, h, e => by cases h with | cons h1 h2 => exact Ims.getD (i := i) h2 (by simpa using e)
theorem Ims.append {H : Hp} : ∀ {ds es : List PyData} {vs ws : List V}, Ims H vs ds → Ims H ws es → Ims H (vs ++ ws) (ds ++ es)
  | [], _, _, _, h, k => by cases h; exact k
  | d :: ds, _, _, _, h, k => by cases h with | cons h1 h2 => exact .cons h1 (Ims.append h2 k)
theorem Ims.take {H : Hp} : ∀ {ds : List PyData} {vs : List V} (n : Nat), Ims H vs ds → Ims H (vs.take n) (ds.take n)
  | _, _, 0, _ => .nil
  | [], _, n + 1, h => by cases h; exact .nil
  | d :: ds, _, n + 1, h => by cases h with | cons h1 h2 => exact .cons h1 (Ims.take n h2)
theorem Ims.drop {H : Hp} : ∀ {ds : List PyData} {vs : List V} (n : Nat), Ims H vs ds → Ims H (vs.drop n) (ds.drop n)
  | _, _, 0, h => h
  | [], _, n + 1, h => by cases h; exact .nil
  | d :: ds, _, n + 1, h => by cases h with | cons h1 h2 => exact Ims.drop n h2

/-- inversions -/
theorem Im.s {H : Hp} {v : V} {x : Str} (h : Im H v (.str x)) : v = .str x := by cases h; rfl
theorem Im.i {H : Hp} {v : V} {x : Int} (h : Im H v (.int x)) : v = .int x := by cases h; rfl
theorem Im.b {H : Hp} {v : V} {x : Bool} (h : Im H v (.bool x)) : v = .bl x := by cases h; rfl
theorem Im.n {H : Hp} {v : V} (h : Im H v .none) : v = .non := by cases h; rfl
theorem Im.t {H : Hp} {v : V} {ds : List PyData} (h : Im H v (.tuple ds)) : ∃ a xs, v = .ref a ∧ H a = some (.tup xs) ∧ Ims H xs ds := by cases h with | tup h1 h2 => exact ⟨_, _, rfl, h1, h2⟩
theorem Im.l {H : Hp} {v : V} {ds : List PyData} (h : Im H v (.list ds)) : ∃ a xs, v = .ref a ∧ H a = some (.lst xs) ∧ Ims H xs ds := by cases h with | lst h1 h2 => exact ⟨_, _, rfl, h1, h2⟩
theorem Ims.strs {H : Hp} : ∀ {ss : List Str} {vs : List V}, Ims H vs (ss.map PyData.str) → vs = ss.map V.str
  | [], _, h => by cases h; rfl
  | s :: ss, _, h => by cases h with | cons h1 h2 => rw [h1.s, Ims.strs h2]; rfl
theorem Ims.bls {H : Hp} : ∀ {ss : List Bool} {vs : List V}, Ims H vs (ss.map PyData.bool) → vs = ss.map V.bl
  | [], _, h => by cases h; rfl
  | s :: ss, _, h => by cases h with | cons h1 h2 => rw [h1.b, Ims.bls h2]; rfl
theorem Ims.ofStrs {H : Hp} : ∀ ss : List Str, Ims H (ss.map V.str) (ss.map PyData.str)
  | [] => .nil
  | s :: ss => .cons (.str s) (Ims.ofStrs ss)

mutual
theorem Im.dp {K : PySem.W.Frag} {H : Hp} : ∀ {d : PyData} {v : V}, Im H v d → Dp K H v d
  | .none, _, h => by cases h; exact .non
  | .bool _, _, h => by cases h; exact .bl _
  | .int _, _, h => by cases h; exact .int _
  | .str _, _, h => by cases h; exact .str _
  | .list ds, _, h => by cases h with | lst h1 h2 => exact .lst (SqL.of h1) (Ims.dp h2)
  | .tuple ds, _, h => by cases h with | tup h1 h2 => exact .tup (SqT.of h1) (Ims.dp h2)
  | .dict _, _, h => by cases h
theorem Ims.dp {K : PySem.W.Frag} {H : Hp} : ∀ {ds : List PyData} {vs : List V}, Ims H vs ds → DpAll K H vs ds
  | [], _, h => by cases h; exact .nil
  | d :: ds, _, h => by cases h with | cons h1 h2 => exact .cons (Im.dp h1) (Ims.dp h2)
end

/-! ### what evaluates to what data -/
def EvD (te : TE) (σ : L2.St) (H : Hp) (d : PyData) : Prop := ∀ H1, Ex H H1 → ∀ Q : VK, (∀ v H2, Ex H1 H2 → Im H2 v d → Q v H2) → te σ H1 Q
/-- a new list -/
def EvN (te : TE) (σ : L2.St) (H : Hp) (ds : List PyData) : Prop := ∀ H1, Ex H H1 → ∀ Q : VK, (∀ p xs H2, H1 p = none → Ex H1 H2 → H2 p = some (.lst xs) → Ims H2 xs ds → Q (.ref p) H2) → te σ H1 Q
def EvDs (ta : TA) (σ : L2.St) (H : Hp) (ds : List PyData) : Prop := ∀ H1, Ex H H1 → ∀ Q : List V → Hp → Prop, (∀ vs H2, Ex H1 H2 → Ims H2 vs ds → Q vs H2) → ta σ H1 Q

section
variable {K : PySem.W.Frag} {σ : L2.St} {H H' : Hp} {ta tb te tx tl : TE} {t u : TT} {x y z v : V} {d d' e' : PyData} {ds es : List PyData}
theorem EvD.mono (e : Ex H H') (h : EvD te σ H d) : EvD te σ H' d := fun H1 a Q q => h H1 (e.trans a) Q q
theorem EvN.mono (e : Ex H H') (h : EvN te σ H ds) : EvN te σ H' ds := fun H1 a Q q => h H1 (e.trans a) Q q
theorem EvDs.mono {ta : TA} (e : Ex H H') (h : EvDs ta σ H ds) : EvDs ta σ H' ds := fun H1 a Q q => h H1 (e.trans a) Q q
theorem EvN.toD (h : EvN te σ H ds) : EvD te σ H (.list ds) := fun H1 a Q q => h H1 a Q fun p xs H2 _ e1 e2 e3 => q _ H2 e1 (.lst e2 e3)
theorem EvN.is {es : List PyData} (h : EvN te σ H ds) (e : ds = es) : EvN te σ H es := e ▸ h
theorem EvD.is (h : EvD te σ H d) (e : d = d') : EvD te σ H d' := e ▸ h
theorem ed_var {i : Nat} (h : σ[i]? = some (some v)) (hd : Im H v d) : EvD (tVar i) σ H d := fun H1 e _ q => ⟨v, h, q v H1 (Ex.refl H1) (hd.mono e)⟩
theorem ed_c (h : Im H v d) : EvD (tC v) σ H d := fun H1 e _ q => q v H1 (Ex.refl H1) (h.mono e)
theorem ed_i (i : Int) : EvD (tC (.int i)) σ H (.int i) := ed_c (.int i)
theorem ed_s (i : Str) : EvD (tC (.str i)) σ H (.str i) := ed_c (.str i)
theorem ed_b (i : Bool) : EvD (tC (.bl i)) σ H (.bool i) := ed_c (.bl i)
theorem ed_n : EvD (tC .non) σ H .none := ed_c .non
theorem ea0 : EvDs tNil σ H [] := fun H1 _ _ q => q _ H1 (Ex.refl H1) .nil
theorem ea1 {tr : TA} (h : EvD ta σ H d) (hr : EvDs tr σ H ds) : EvDs (tCons ta tr) σ H (d :: ds) := fun H1 e _ q =>
  h H1 e _ fun v H2 e2 i2 => hr H2 (e.trans e2) _ fun vs H3 e3 i3 => q _ H3 (e2.trans e3) (.cons (i2.mono e3) i3)
theorem ed_tup {ta : TA} (h : EvDs ta σ H ds) (hl : ds.length ≤ 100000) : EvD (tTup ta) σ H (.tuple ds) := fun H1 e _ q =>
  h H1 e _ fun vs H2 e2 i2 => ⟨sz_of (by rw [i2.length]; exact hl), fun p hp => q _ _ (e2.trans (Ex.new hp)) (.tup upd_same (i2.mono (Ex.new hp)))⟩
theorem en_lst {ta : TA} (h : EvDs ta σ H ds) (hl : ds.length ≤ 100000) : EvN (tLst ta) σ H ds := fun H1 e _ q =>
  h H1 e _ fun vs H2 e2 i2 => ⟨sz_of (by rw [i2.length]; exact hl), fun p hp => q _ _ _ (fresh_back e2 hp) (e2.trans (Ex.new hp)) upd_same (i2.mono (Ex.new hp))⟩
/-- an operator on two values -/
theorem ed_op {r : R2} (ha : EvD ta σ H d) (hb : EvD tb σ H e') (hr : ∀ x y H1, Ex H H1 → Im H1 x d → Im H1 y e' → ∀ Q : VK, (∀ v H2, Ex H1 H2 → Im H2 v d' → Q v H2) → r x y H1 Q) : EvD (tOp r ta tb) σ H d' := fun H1 e Q q =>
  ha H1 e _ fun x H2 e2 i2 => hb H2 (e.trans e2) _ fun y H3 e3 i3 => hr x y H3 ((e.trans e2).trans e3) (i2.mono e3) i3 Q fun v H4 e4 i4 => q v H4 ((e2.trans e3).trans e4) i4
theorem en_op {r : R2} (ha : EvD ta σ H d) (hb : EvD tb σ H e') (hr : ∀ x y H1, Ex H H1 → Im H1 x d → Im H1 y e' → ∀ Q : VK, (∀ p xs H2, H1 p = none → Ex H1 H2 → H2 p = some (.lst xs) → Ims H2 xs ds → Q (.ref p) H2) → r x y H1 Q) : EvN (tOp r ta tb) σ H ds := fun H1 e Q q =>
  ha H1 e _ fun x H2 e2 i2 => hb H2 (e.trans e2) _ fun y H3 e3 i3 => hr x y H3 ((e.trans e2).trans e3) (i2.mono e3) i3 Q fun p xs H4 n4 e4 i4 i5 => q p xs H4 (fresh_back (e2.trans e3) n4) ((e2.trans e3).trans e4) i4 i5
/-- ints -/
theorem ed_I0 {g : Int → Int → Int} {i j : Int} (ha : EvD ta σ H (.int i)) (hb : EvD tb σ H (.int j)) : EvD (tOp (rI0 fun i j => .int (g i j)) ta tb) σ H (.int (g i j)) :=
  ed_op ha hb fun x y H1 e hx hy Q q => ⟨i, j, hx.i, hy.i, q _ H1 (Ex.refl H1) (.int _)⟩
theorem ed_B0 {g : Int → Int → Bool} {i j : Int} (ha : EvD ta σ H (.int i)) (hb : EvD tb σ H (.int j)) : EvD (tOp (rI0 fun i j => .bl (g i j)) ta tb) σ H (.bool (g i j)) :=
  ed_op ha hb fun x y H1 e hx hy Q q => ⟨i, j, hx.i, hy.i, q _ H1 (Ex.refl H1) (.bl _)⟩
theorem ed_I {C : Int → Int → Prop} {g : Int → Int → Int} {i j : Int} (ha : EvD ta σ H (.int i)) (hb : EvD tb σ H (.int j)) (hc : C i j) : EvD (tOp (rI C fun i j => .int (g i j)) ta tb) σ H (.int (g i j)) :=
  ed_op ha hb fun x y H1 e hx hy Q q => ⟨i, j, hx.i, hy.i, hc, q _ H1 (Ex.refl H1) (.int _)⟩
/-- == of two texts, two ints -/
theorem ed_eqS {a b : Str} (ha : EvD ta σ H (.str a)) (hb : EvD tb σ H (.str b)) : EvD (tOp rEq ta tb) σ H (.bool (decide (a = b))) :=
  ed_op ha hb fun x y H1 e hx hy Q q => by
    rw [hx.s, hy.s]
    refine ⟨rfl, ?_⟩
    have h := q _ H1 (Ex.refl H1) (.bl (decide (a = b)))
    have e2 : decide (V.str a = V.str b) = decide (a = b) := by by_cases c : a = b <;> simp [c]
    rw [e2]; exact h
theorem ed_neS {a b : Str} (ha : EvD ta σ H (.str a)) (hb : EvD tb σ H (.str b)) : EvD (tOp rNe ta tb) σ H (.bool (!decide (a = b))) :=
  ed_op ha hb fun x y H1 e hx hy Q q => by
    rw [hx.s, hy.s]
    refine ⟨rfl, ?_⟩
    have h := q _ H1 (Ex.refl H1) (.bl (!decide (a = b)))
    have e2 : decide (V.str a = V.str b) = decide (a = b) := by by_cases c : a = b <;> simp [c]
    rw [e2]; exact h
theorem ed_eqI {a b : Int} (ha : EvD ta σ H (.int a)) (hb : EvD tb σ H (.int b)) : EvD (tOp rEq ta tb) σ H (.bool (decide (a = b))) :=
  ed_op ha hb fun x y H1 e hx hy Q q => by
    rw [hx.i, hy.i]
    refine ⟨rfl, ?_⟩
    have h := q _ H1 (Ex.refl H1) (.bl (decide (a = b)))
    have e2 : decide (V.int a = V.int b) = decide (a = b) := by by_cases c : a = b <;> simp [c]
    rw [e2]; exact h
theorem ed_neI {a b : Int} (ha : EvD ta σ H (.int a)) (hb : EvD tb σ H (.int b)) : EvD (tOp rNe ta tb) σ H (.bool (!decide (a = b))) :=
  ed_op ha hb fun x y H1 e hx hy Q q => by
    rw [hx.i, hy.i]
    refine ⟨rfl, ?_⟩
    have h := q _ H1 (Ex.refl H1) (.bl (!decide (a = b)))
    have e2 : decide (V.int a = V.int b) = decide (a = b) := by by_cases c : a = b <;> simp [c]
    rw [e2]; exact h
theorem ed_neB {a b : Bool} (ha : EvD ta σ H (.bool a)) (hb : EvD tb σ H (.bool b)) : EvD (tOp rNe ta tb) σ H (.bool (!decide (a = b))) :=
  ed_op ha hb fun x y H1 e hx hy Q q => by
    rw [hx.b, hy.b]
    refine ⟨rfl, ?_⟩
    have h := q _ H1 (Ex.refl H1) (.bl (!decide (a = b)))
    have e2 : decide (V.bl a = V.bl b) = decide (a = b) := by by_cases c : a = b <;> simp [c]
    rw [e2]; exact h
/-- == of data -/
theorem ed_eqD {d e' : PyData} (ha : EvD ta σ H d) (hb : EvD tb σ H e') (s1 : SeqAt.shaped d = true) (s2 : SeqAt.shaped e' = true) : EvD (tOp (rEqD K) ta tb) σ H (.bool (PyData.eqv d e')) :=
  ed_op ha hb fun x y H1 e hx hy Q q => ⟨d, e', hx.dp, hy.dp, s1, s2, q _ H1 (Ex.refl H1) (.bl _)⟩
theorem ed_neD {d e' : PyData} (ha : EvD ta σ H d) (hb : EvD tb σ H e') (s1 : SeqAt.shaped d = true) (s2 : SeqAt.shaped e' = true) : EvD (tOp (rNeD K) ta tb) σ H (.bool (!PyData.eqv d e')) :=
  ed_op ha hb fun x y H1 e hx hy Q q => ⟨d, e', hx.dp, hy.dp, s1, s2, q _ H1 (Ex.refl H1) (.bl _)⟩
/-- is None -/
def rIsN' : R2 := fun x y H Q => y = .non ∧ Q (.bl (decide (x = .non))) H
theorem ed_isN (ha : EvD ta σ H d) : EvD (tOp (fun x y H Q => y = .non ∧ Q (.bl (decide (x = .non))) H) ta (tC .non)) σ H (.bool (match d with | .none => true | _ => false)) :=
  ed_op ha ed_n fun x y H1 e hx hy Q q => ⟨hy.n, by
    cases hx <;> exact q _ H1 (Ex.refl H1) (.bl _)⟩
theorem ed_notN (ha : EvD ta σ H d) : EvD (tOp (fun x y H Q => y = .non ∧ Q (.bl (!decide (x = .non))) H) ta (tC .non)) σ H (.bool (match d with | .none => false | _ => true)) :=
  ed_op ha ed_n fun x y H1 e hx hy Q q => ⟨hy.n, by
    cases hx <;> exact q _ H1 (Ex.refl H1) (.bl _)⟩
/-- texts: <, >=, + -/
theorem ed_ltS {a b : Str} (ha : EvD ta σ H (.str a)) (hb : EvD tb σ H (.str b)) : EvD (tOp (fun x y H Q => ∃ i j, x = .str i ∧ y = .str j ∧ Q (.bl (decide (i.cps.toList < j.cps.toList))) H) ta tb) σ H (.bool (decide (a.cps.toList < b.cps.toList))) :=
  ed_op ha hb fun x y H1 e hx hy Q q => ⟨a, b, hx.s, hy.s, q _ H1 (Ex.refl H1) (.bl _)⟩
theorem ed_gtS {a b : Str} (ha : EvD ta σ H (.str a)) (hb : EvD tb σ H (.str b)) : EvD (tOp (fun x y H Q => ∃ i j, x = .str i ∧ y = .str j ∧ Q (.bl (decide (j.cps.toList < i.cps.toList))) H) ta tb) σ H (.bool (decide (b.cps.toList < a.cps.toList))) :=
  ed_op ha hb fun x y H1 e hx hy Q q => ⟨a, b, hx.s, hy.s, q _ H1 (Ex.refl H1) (.bl _)⟩
theorem ed_geS {a b : Str} (ha : EvD ta σ H (.str a)) (hb : EvD tb σ H (.str b)) : EvD (tOp (fun x y H Q => ∃ i j, x = .str i ∧ y = .str j ∧ Q (.bl (!decide (i.cps.toList < j.cps.toList))) H) ta tb) σ H (.bool (!decide (a.cps.toList < b.cps.toList))) :=
  ed_op ha hb fun x y H1 e hx hy Q q => ⟨a, b, hx.s, hy.s, q _ H1 (Ex.refl H1) (.bl _)⟩
theorem ed_addS {a b : Str} (ha : EvD ta σ H (.str a)) (hb : EvD tb σ H (.str b)) (hz : a.length + b.length ≤ 100000) : EvD (tOp (fun x y H Q => ∃ i j, x = .str i ∧ y = .str j ∧ i.length + j.length ≤ sizeLine ∧ Q (.str (i ++ j)) H) ta tb) σ H (.str (a ++ b)) :=
  ed_op ha hb fun x y H1 e hx hy Q q => ⟨a, b, hx.s, hy.s, sz_of hz, q _ H1 (Ex.refl H1) (.str _)⟩
/-- one sign in a text -/
theorem ed_inSign {c : Nat} {b : Str} (ha : EvD ta σ H (.str ⟨#[c]⟩)) (hb : EvD tb σ H (.str b)) : EvD (tOp (fun x y H Q => ∃ (c : Nat) (z : Str), x = .str ⟨#[c]⟩ ∧ y = .str z ∧ Q (.bl (decide (c ∈ z.cps.toList))) H) ta tb) σ H (.bool (decide (c ∈ b.cps.toList))) :=
  ed_op ha hb fun x y H1 e hx hy Q q => ⟨c, b, hx.s, hy.s, q _ H1 (Ex.refl H1) (.bl _)⟩
/-- a text in a tuple or list of texts -/
theorem inV_strs (a : Str) : ∀ ss : List Str, inV (.str a) (ss.map V.str) = decide (a ∈ ss)
  | [] => rfl
  | s :: ss => by
    have ih := inV_strs a ss
    unfold inV at ih ⊢
    rw [List.map_cons, List.any_cons, ih]
    by_cases c : a = s
    · subst c; simp [eqV]
    · have c' : ¬ s = a := fun z => c z.symm
      simp [eqV, c, c']
theorem flat_strs : ∀ ss : List Str, (ss.map V.str).all flatV = true
  | [] => rfl
  | s :: ss => by rw [List.map_cons, List.all_cons, flat_strs ss]; rfl
theorem ed_inT {a : Str} {ss : List Str} (ha : EvD ta σ H (.str a)) (hb : EvD tb σ H (.tuple (ss.map .str))) : EvD (tOp (rIn K false) ta tb) σ H (.bool (decide (a ∈ ss))) :=
  ed_op ha hb fun x y H1 e hx hy Q q => by
    obtain ⟨p, xs, rfl, h1, h2⟩ := hy.t
    have ex := h2.strs; subst ex; rw [hx.s]
    refine ⟨p, _, rfl, .inr (SqT.of h1), rfl, flat_strs ss, ?_⟩
    have h := q _ H1 (Ex.refl H1) (.bl (decide (a ∈ ss)))
    show Q (.bl (inV (.str a) (ss.map V.str))) H1
    rw [inV_strs]; exact h
theorem ed_niT {a : Str} {ss : List Str} (ha : EvD ta σ H (.str a)) (hb : EvD tb σ H (.tuple (ss.map .str))) : EvD (tOp (rIn K true) ta tb) σ H (.bool (!decide (a ∈ ss))) :=
  ed_op ha hb fun x y H1 e hx hy Q q => by
    obtain ⟨p, xs, rfl, h1, h2⟩ := hy.t
    have ex := h2.strs; subst ex; rw [hx.s]
    refine ⟨p, _, rfl, .inr (SqT.of h1), rfl, flat_strs ss, ?_⟩
    have h := q _ H1 (Ex.refl H1) (.bl (!decide (a ∈ ss)))
    show Q (.bl (!inV (.str a) (ss.map V.str))) H1
    rw [inV_strs]; exact h
theorem ed_inL {a : Str} {ss : List Str} (ha : EvD ta σ H (.str a)) (hb : EvD tb σ H (.list (ss.map .str))) : EvD (tOp (rIn K false) ta tb) σ H (.bool (decide (a ∈ ss))) :=
  ed_op ha hb fun x y H1 e hx hy Q q => by
    obtain ⟨p, xs, rfl, h1, h2⟩ := hy.l
    have ex := h2.strs; subst ex; rw [hx.s]
    refine ⟨p, _, rfl, .inl (SqL.of h1), rfl, flat_strs ss, ?_⟩
    have h := q _ H1 (Ex.refl H1) (.bl (decide (a ∈ ss)))
    show Q (.bl (inV (.str a) (ss.map V.str))) H1
    rw [inV_strs]; exact h
/-- subscripts -/
theorem atI_im {xs : List V} {i : Int} (h : Ims H xs ds) (ha : atI ds i = some d) : ∃ v, atI xs i = some v ∧ Im H v d := by
  unfold atI at ha ⊢
  rw [h.length]
  cases e : ixN ds.length i with
  | none => rw [e] at ha; cases ha
  | some j =>
    rw [e] at ha
    exact h.getD ha
theorem ed_ixT {i : Int} (ha : EvD ta σ H (.tuple ds)) (hb : EvD tb σ H (.int i)) (hi : atI ds i = some d) : EvD (tOp (rIxT K) ta tb) σ H d :=
  ed_op ha hb fun x y H1 e hx hy Q q => by
    obtain ⟨p, xs, rfl, h1, h2⟩ := hx.t
    obtain ⟨v, hv, iv⟩ := atI_im h2 hi
    exact ⟨p, xs, i, v, rfl, hy.i, SqT.of h1, hv, q _ H1 (Ex.refl H1) iv⟩
theorem ed_ixL {i : Int} (ha : EvD ta σ H (.list ds)) (hb : EvD tb σ H (.int i)) (hi : atI ds i = some d) : EvD (tOp (rIxL K) ta tb) σ H d :=
  ed_op ha hb fun x y H1 e hx hy Q q => by
    obtain ⟨p, xs, rfl, h1, h2⟩ := hx.l
    obtain ⟨v, hv, iv⟩ := atI_im h2 hi
    exact ⟨p, xs, i, v, rfl, hy.i, SqL.of h1, hv, q _ H1 (Ex.refl H1) iv⟩
/-- list + list, tuple + tuple -/
theorem en_cat (ha : EvD ta σ H (.list ds)) (hb : EvD tb σ H (.list es)) (hz : ds.length + es.length ≤ 100000) : EvN (tOp rCat ta tb) σ H (ds ++ es) :=
  en_op ha hb fun x y H1 e hx hy Q q => by
    obtain ⟨p, xs, rfl, h1, h2⟩ := hx.l
    obtain ⟨p', xs', rfl, h1', h2'⟩ := hy.l
    refine ⟨p, p', xs, xs', rfl, rfl, h1, h1', sz_of (by rw [h2.length, h2'.length]; exact hz), fun r hr => q r _ _ hr (Ex.new hr) upd_same ((h2.append h2').mono (Ex.new hr))⟩
theorem ed_catA (ha : EvD ta σ H (.tuple ds)) (hb : EvD tb σ H (.tuple es)) (hz : ds.length + es.length ≤ 100000) : EvD (tOp (rCatA K) ta tb) σ H (.tuple (ds ++ es)) :=
  ed_op ha hb fun x y H1 e hx hy Q q => by
    obtain ⟨p, xs, rfl, h1, h2⟩ := hx.t
    obtain ⟨p', xs', rfl, h1', h2'⟩ := hy.t
    refine ⟨p, p', xs, xs', rfl, rfl, SqT.of h1, SqT.of h1', sz_of (by rw [h2.length, h2'.length]; exact hz), fun z => ?_, fun _ z => ?_, fun _ _ r hr => ?_⟩
    · subst z; cases h2; exact q _ H1 (Ex.refl H1) (.tup h1' h2')
    · subst z; cases h2'; rw [List.append_nil] at q; exact q _ H1 (Ex.refl H1) (.tup h1 h2)
    · exact q _ _ (Ex.new hr) (.tup upd_same ((h2.append h2').mono (Ex.new hr)))
/-- slices -/
def cutD (ds : List PyData) (lo hi : Option Int) : List PyData := (ds.drop (HT.sIx ds.length 0 lo)).take (HT.sIx ds.length ds.length hi - HT.sIx ds.length 0 lo)
theorem Ims.cut {xs : List V} (h : Ims H xs ds) (lo hi : Option Int) : Ims H (cutV xs lo hi) (cutD ds lo hi) := by
  unfold cutV cutD
  rw [h.length]
  exact (h.drop _).take _
theorem en_slL {tl th : TO} {lo hi : Option Int} (h : EvD te σ H (.list ds)) (h1 : EvO tl σ H lo) (h2 : EvO th σ H hi) : EvN (tSl (rSlL K) te tl th) σ H (cutD ds lo hi) := fun H1 e Q q =>
  h H1 e _ fun v H2 e2 i2 => h1 H2 (e.trans e2) _ fun H3 e3 => h2 H3 ((e.trans e2).trans e3) _ fun H4 e4 => by
    obtain ⟨p, xs, rfl, g1, g2⟩ := ((i2.mono e3).mono e4).l
    exact ⟨p, xs, rfl, SqL.of g1, fun r hr => q r _ _ (fresh_back ((e2.trans e3).trans e4) hr) (((e2.trans e3).trans e4).trans (Ex.new hr)) upd_same ((g2.cut lo hi).mono (Ex.new hr))⟩
theorem sIx_whole {n : Nat} {lo hi : Option Int} (h : HT.sIx n 0 lo = 0 ∧ HT.sIx n n hi = n) (l : List PyData) (hl : l.length = n) : cutD l lo hi = l := by
  subst hl
  unfold cutD
  rw [h.1, h.2, List.drop_zero, Nat.sub_zero, List.take_length]
theorem ed_slA {tl th : TO} {lo hi : Option Int} (h : EvD te σ H (.tuple ds)) (h1 : EvO tl σ H lo) (h2 : EvO th σ H hi) : EvD (tSl (rSlA K) te tl th) σ H (.tuple (cutD ds lo hi)) := fun H1 e Q q =>
  h H1 e _ fun v H2 e2 i2 => h1 H2 (e.trans e2) _ fun H3 e3 => h2 H3 ((e.trans e2).trans e3) _ fun H4 e4 => by
    obtain ⟨p, xs, rfl, g1, g2⟩ := ((i2.mono e3).mono e4).t
    refine ⟨p, xs, rfl, SqT.of g1, fun z => ?_, fun _ r hr => q _ _ (((e2.trans e3).trans e4).trans (Ex.new hr)) (.tup upd_same ((g2.cut lo hi).mono (Ex.new hr)))⟩
    rw [g2.length] at z
    rw [sIx_whole z ds rfl] at q
    exact q _ H4 ((e2.trans e3).trans e4) (.tup g1 g2)
theorem ed_slS {tl th : TO} {a : Str} {lo hi : Option Int} (h : EvD te σ H (.str a)) (hz : a.length ≤ 100000) (h1 : EvO tl σ H lo) (h2 : EvO th σ H hi) : EvD (tSl rSlS te tl th) σ H (.str (cutS a lo hi)) := fun H1 e Q q =>
  h H1 e _ fun v H2 e2 i2 => h1 H2 (e.trans e2) _ fun H3 e3 => h2 H3 ((e.trans e2).trans e3) _ fun H4 e4 =>
    ⟨a, i2.s, sz_of hz, q _ H4 ((e2.trans e3).trans e4) (.str _)⟩
theorem eo_i {i : Int} (h : EvD te σ H (.int i)) : EvO (tPart te) σ H (some i) := fun H1 e _ q => h H1 e _ fun v H2 e2 iv => ⟨i, iv.i, q H2 e2⟩
/-- tests and truth values -/
theorem et_D {b : Bool} (h : EvD te σ H (.bool b)) : EvT (tTest te) σ H b := fun H1 e _ q => h H1 e _ fun v H2 e2 iv => ⟨b, iv.b, q H2 e2⟩
theorem et_DB {b : Bool} (h : EvD te σ H (.bool b)) : EvT (tB te) σ H b := fun H1 e _ q => h H1 e _ fun v H2 e2 iv => ⟨b, iv.b, q H2 e2⟩
theorem EvD.ev {b : Bool} (h : EvD te σ H (.bool b)) : Ev te σ H (.bl b) := fun H1 e _ q => h H1 e _ fun v H2 e2 iv => by rw [iv.b]; exact q H2 e2
theorem EvD.evI {b : Int} (h : EvD te σ H (.int b)) : Ev te σ H (.int b) := fun H1 e _ q => h H1 e _ fun v H2 e2 iv => by rw [iv.i]; exact q H2 e2
theorem EvD.evS {b : Str} (h : EvD te σ H (.str b)) : Ev te σ H (.str b) := fun H1 e _ q => h H1 e _ fun v H2 e2 iv => by rw [iv.s]; exact q H2 e2
theorem EvD.of_ev (h : Ev te σ H v) (iv : Im H v d) : EvD te σ H d := fun H1 e Q q => h H1 e Q fun H2 e2 => q v H2 e2 (iv.mono (e.trans e2))
theorem ed_and {a b : Bool} (h1 : EvD ta σ H (.bool a)) (h2 : a = true → EvD tb σ H (.bool b)) : EvD (tAndV ta tb) σ H (.bool (a && b)) := fun H1 e Q q => h1 H1 e _ fun v H2 e2 iv => ⟨a, iv.b, by
  cases a with
  | true =>
    show tb σ H2 Q
    exact h2 rfl H2 (e.trans e2) Q fun v H3 e3 => q v H3 (e2.trans e3)
  | false =>
    show Q (.bl false) H2
    exact q _ H2 e2 (.bl _)⟩
theorem ed_or {a b : Bool} (h1 : EvD ta σ H (.bool a)) (h2 : a = false → EvD tb σ H (.bool b)) : EvD (tOrV ta tb) σ H (.bool (a || b)) := fun H1 e Q q => h1 H1 e _ fun v H2 e2 iv => ⟨a, iv.b, by
  cases a with
  | true =>
    show Q (.bl true) H2
    exact q _ H2 e2 (.bl _)
  | false =>
    show tb σ H2 Q
    exact h2 rfl H2 (e.trans e2) Q fun v H3 e3 => q v H3 (e2.trans e3)⟩
theorem ed_not {a : Bool} (h1 : EvD ta σ H (.bool a)) : EvD (tNotV ta) σ H (.bool (!a)) := fun H1 e _ q => h1 H1 e _ fun v H2 e2 iv => ⟨a, iv.b, q _ H2 e2 (.bl _)⟩
theorem ed_if {b : Bool} (h : EvT t σ H b) (h1 : b = true → EvD ta σ H d) (h2 : b = false → EvD tb σ H d) : EvD (tIf t ta tb) σ H d := fun H1 e Q q => h H1 e _ fun H2 e2 => by
  cases b with
  | true =>
    show ta σ H2 Q
    exact h1 rfl H2 (e.trans e2) Q fun v H3 e3 => q v H3 (e2.trans e3)
  | false =>
    show tb σ H2 Q
    exact h2 rfl H2 (e.trans e2) Q fun v H3 e3 => q v H3 (e2.trans e3)
/-- a op b op c -/
theorem ed_chain {g g' : Int → Int → Bool} {i j k : Int} {tc : TE} (ha : EvD ta σ H (.int i)) (hb : EvD tb σ H (.int j)) (hc : EvD tc σ H (.int k)) :
    EvD (tChain (rI0 fun i j => .bl (g i j)) (rI0 fun i j => .bl (g' i j)) ta tb tc) σ H (.bool (g i j && g' j k)) := fun H1 e Q q =>
  ha H1 e _ fun x H2 e2 i2 => hb H2 (e.trans e2) _ fun y H3 e3 i3 => ⟨i, j, i2.i, i3.i, g i j, rfl, by
    cases c : g i j with
    | true =>
      rw [if_pos rfl]
      refine hc H3 ((e.trans e2).trans e3) _ fun z H4 e4 i4 => ⟨j, k, i3.i, i4.i, ?_⟩
      have h := q (.bl (g' j k)) H4 ((e2.trans e3).trans e4) (by rw [c]; exact .bl _)
      exact h
    | false =>
      rw [if_neg (by decide)]
      exact q (.bl false) H3 (e2.trans e3) (by rw [c]; exact .bl _)⟩
end
end Pd
set_option Elab.async false
set_option linter.all false
set_option maxRecDepth 100000
set_option maxHeartbeats 2000000
/-! Pd2: built-ins, texts, comprehensions, loops and calls over immutable data. -/
namespace Pd
open PySem L2 Evl
section
variable {K : PySem.W.Frag} {σ : L2.St} {H H' : Hp} {ta tb te tx tl to : TE} {t u : TT} {x y z v : V} {d d' e' : PyData} {ds es : List PyData}
/-! ### built-ins -/
theorem ed_cb {r : List V → Hp → VK → Prop} {ta : TA} (h : EvDs ta σ H ds) (hr : ∀ vs H1, Ex H H1 → Ims H1 vs ds → ∀ Q : VK, (∀ v H2, Ex H1 H2 → Im H2 v d → Q v H2) → r vs H1 Q) : EvD (tCB r ta) σ H d := fun H1 e Q q =>
  h H1 e _ fun vs H2 e2 i2 => hr vs H2 (e.trans e2) i2 Q fun v H3 e3 i3 => q v H3 (e2.trans e3) i3
theorem en_cb {r : List V → Hp → VK → Prop} {ta : TA} (h : EvDs ta σ H ds) (hr : ∀ vs H1, Ex H H1 → Ims H1 vs ds → ∀ Q : VK, (∀ p xs H2, H1 p = none → Ex H1 H2 → H2 p = some (.lst xs) → Ims H2 xs es → Q (.ref p) H2) → r vs H1 Q) : EvN (tCB r ta) σ H es := fun H1 e Q q =>
  h H1 e _ fun vs H2 e2 i2 => hr vs H2 (e.trans e2) i2 Q fun p xs H3 n3 e3 i3 i4 => q p xs H3 (fresh_back e2 n3) (e2.trans e3) i3 i4
theorem Ims.one {vs : List V} (h : Ims H vs [d]) : ∃ v, vs = [v] ∧ Im H v d := by
  cases h with
  | cons h1 h2 => cases h2; exact ⟨_, rfl, h1⟩
theorem Ims.two {vs : List V} (h : Ims H vs [d, d']) : ∃ v w, vs = [v, w] ∧ Im H v d ∧ Im H w d' := by
  cases h with
  | cons h1 h2 => cases h2 with | cons h2 h3 => cases h3; exact ⟨_, _, rfl, h1, h2⟩
theorem Ims.three {d3 : PyData} {vs : List V} (h : Ims H vs [d, d', d3]) : ∃ v w u, vs = [v, w, u] ∧ Im H v d ∧ Im H w d' ∧ Im H u d3 := by
  cases h with
  | cons h1 h2 => obtain ⟨w, u, rfl, a, b⟩ := h2.two; exact ⟨_, _, _, rfl, h1, a, b⟩
theorem ed_lenS {a : Str} (h : EvD ta σ H (.str a)) (hz : a.length ≤ 100000) : EvD (tCB (fun xs H Q => ∃ z, xs = [.str z] ∧ z.length ≤ sizeLine ∧ Q (.int z.length) H) (tCons ta tNil)) σ H (.int a.length) :=
  ed_cb (ea1 h ea0) fun vs H1 e i Q q => by
    obtain ⟨v, rfl, iv⟩ := i.one
    rw [iv.s]
    exact ⟨a, rfl, sz_of hz, q _ H1 (Ex.refl H1) (.int _)⟩
theorem ed_lenT (h : EvD ta σ H (.tuple ds)) : EvD (tCB (rLenS K) (tCons ta tNil)) σ H (.int ds.length) :=
  ed_cb (ea1 h ea0) fun vs H1 e i Q q => by
    obtain ⟨v, rfl, iv⟩ := i.one
    obtain ⟨p, xs, rfl, h1, h2⟩ := iv.t
    exact ⟨p, xs, rfl, .inr (SqT.of h1), q _ H1 (Ex.refl H1) (by rw [h2.length]; exact .int _)⟩
theorem ed_lenL (h : EvD ta σ H (.list ds)) : EvD (tCB (rLenS K) (tCons ta tNil)) σ H (.int ds.length) :=
  ed_cb (ea1 h ea0) fun vs H1 e i Q q => by
    obtain ⟨v, rfl, iv⟩ := i.one
    obtain ⟨p, xs, rfl, h1, h2⟩ := iv.l
    exact ⟨p, xs, rfl, .inl (SqL.of h1), q _ H1 (Ex.refl H1) (by rw [h2.length]; exact .int _)⟩
/-- the built-in type of data -/
def tyN : PyData → String
  | .none => "NoneType"
  | .bool _ => "bool"
  | .int _ => "int"
  | .str _ => "str"
  | .list _ => "list"
  | .tuple _ => "tuple"
  | .dict _ => "dict"
theorem Im.ty (h : Im H v d) : TyX K H v (.type (tyN d)) := by
  cases h with
  | non => exact .base .non
  | bl b => exact .base (.bl b)
  | int i => exact .base (.int i)
  | str s => exact .base (.str s)
  | lst h1 _ => exact .base (.lst h1)
  | tup h1 _ => exact .base (.tup h1)
theorem ed_isi {T : String} {b : Bool} (h : EvD ta σ H d) (hb : kitB (tyN d) T = some b) : EvD (tCB (rIsi K) (tCons ta (tCons (tC (.ty T)) tNil))) σ H (.bool b) := fun H1 e Q q =>
  h H1 e _ fun v H2 e2 iv => ⟨v, .ty T, .type (tyN d), .type T, b, rfl, .ty T, iv.ty, kit_ty hb, q _ H2 e2 (.bl b)⟩
theorem all_strs : ∀ bs : List Bool, bs.all id = bs.all (fun b => b) := fun _ => rfl
theorem ed_all {bs : List Bool} (h : EvD te σ H (.list (bs.map .bool))) : EvD (tCB (rAll K) (tCons te tNil)) σ H (.bool (bs.all id)) :=
  ed_cb (ea1 h ea0) fun vs H1 e i Q q => by
    obtain ⟨v, rfl, iv⟩ := i.one
    obtain ⟨p, xs, rfl, h1, h2⟩ := iv.l
    have ex := h2.bls; subst ex
    exact ⟨p, bs, rfl, SqL.of h1, q _ H1 (Ex.refl H1) (.bl _)⟩
theorem ed_any {bs : List Bool} (h : EvD te σ H (.list (bs.map .bool))) : EvD (tCB (rAny K) (tCons te tNil)) σ H (.bool (bs.any id)) :=
  ed_cb (ea1 h ea0) fun vs H1 e i Q q => by
    obtain ⟨v, rfl, iv⟩ := i.one
    obtain ⟨p, xs, rfl, h1, h2⟩ := iv.l
    have ex := h2.bls; subst ex
    exact ⟨p, bs, rfl, SqL.of h1, q _ H1 (Ex.refl H1) (.bl _)⟩
abbrev rTupOf (K : PySem.W.Frag) : List V → Hp → VK → Prop := fun xs H Q => ∃ p ys, xs = [.ref p] ∧ ((SqL K H p ys ∧ ∀ l, H l = none → Q (.ref l) (upd H l (.tup ys))) ∨ (SqT K H p ys ∧ Q (.ref p) H))
theorem ed_tupOf (h : EvD ta σ H (.list ds)) : EvD (tCB (rTupOf K) (tCons ta tNil)) σ H (.tuple ds) :=
  ed_cb (ea1 h ea0) fun vs H1 e i Q q => by
    obtain ⟨v, rfl, iv⟩ := i.one
    obtain ⟨p, xs, rfl, h1, h2⟩ := iv.l
    exact ⟨p, xs, rfl, .inl ⟨SqL.of h1, fun l hl => q _ _ (Ex.new hl) (.tup upd_same (h2.mono (Ex.new hl)))⟩⟩
abbrev rLstOf (K : PySem.W.Frag) : List V → Hp → VK → Prop := fun xs H Q => ∃ p ys, xs = [.ref p] ∧ (SqL K H p ys ∨ SqT K H p ys) ∧ ∀ l, H l = none → Q (.ref l) (upd H l (.lst ys))
theorem en_lstOfT (h : EvD ta σ H (.tuple ds)) : EvN (tCB (rLstOf K) (tCons ta tNil)) σ H ds :=
  en_cb (ea1 h ea0) fun vs H1 e i Q q => by
    obtain ⟨v, rfl, iv⟩ := i.one
    obtain ⟨p, xs, rfl, h1, h2⟩ := iv.t
    exact ⟨p, xs, rfl, .inr (SqT.of h1), fun l hl => q l _ _ hl (Ex.new hl) upd_same (h2.mono (Ex.new hl))⟩
/-! ### texts -/
abbrev rJoin (K : PySem.W.Frag) : V → List V → Hp → VK → Prop := fun x xs H Q => ∃ a p, ∃ ys : List Str, x = .str a ∧ xs = [.ref p] ∧ (SqL K H p (ys.map V.str) ∨ SqT K H p (ys.map V.str)) ∧
    (ys.map (·.length)).sum + ys.length * a.length ≤ 16777216 ∧ Q (.str (Txt.join a ys)) H
theorem ed_joinL {a : Str} {ys : List Str} (h : EvD to σ H (.str a)) (h2 : EvD te σ H (.list (ys.map .str))) (hz : (ys.map (·.length)).sum + ys.length * a.length ≤ 16777216) : EvD (tM1 (rJoin K) to te) σ H (.str (Txt.join a ys)) := fun H1 e Q q =>
  h H1 e _ fun v H2 e2 iv => ⟨⟨a, iv.s⟩, h2 H2 (e.trans e2) _ fun w H3 e3 iw => by
    obtain ⟨p, xs, rfl, g1, g2⟩ := iw.l
    have ex := g2.strs; subst ex
    exact ⟨a, p, ys, iv.s, rfl, .inl (SqL.of g1), hz, q _ H3 (e2.trans e3) (.str _)⟩⟩
theorem ed_joinT {a : Str} {ys : List Str} (h : EvD to σ H (.str a)) (h2 : EvD te σ H (.tuple (ys.map .str))) (hz : (ys.map (·.length)).sum + ys.length * a.length ≤ 16777216) : EvD (tM1 (rJoin K) to te) σ H (.str (Txt.join a ys)) := fun H1 e Q q =>
  h H1 e _ fun v H2 e2 iv => ⟨⟨a, iv.s⟩, h2 H2 (e.trans e2) _ fun w H3 e3 iw => by
    obtain ⟨p, xs, rfl, g1, g2⟩ := iw.t
    have ex := g2.strs; subst ex
    exact ⟨a, p, ys, iv.s, rfl, .inr (SqT.of g1), hz, q _ H3 (e2.trans e3) (.str _)⟩⟩
abbrev rSplit : V → List V → Hp → VK → Prop := fun x xs H Q => ∃ a b, x = .str a ∧ xs = [.str b] ∧ (b.length == 0) = false ∧ a.length + 2 ≤ sizeLine ∧ rNewStrs (Txt.split a b) H Q
theorem en_split {a b : Str} (h : EvD to σ H (.str a)) (h2 : EvD te σ H (.str b)) (hb : (b.length == 0) = false) (hz : a.length + 2 ≤ 100000) : EvN (tM1 rSplit to te) σ H ((Txt.split a b).map .str) := fun H1 e Q q =>
  h H1 e _ fun v H2 e2 iv => ⟨⟨a, iv.s⟩, h2 H2 (e.trans e2) _ fun w H3 e3 iw =>
    ⟨a, b, iv.s, by rw [iw.s], hb, sz_of hz, fun p hp => q p _ _ (fresh_back (e2.trans e3) hp) ((e2.trans e3).trans (Ex.new hp)) upd_same (Ims.ofStrs _)⟩⟩
abbrev rUpper : V → List V → Hp → VK → Prop := fun x xs H Q => ∃ a, x = .str a ∧ xs = [] ∧ a.length ≤ 5592405 ∧ Q (.str (Txt.upper a)) H
theorem ed_upper {a : Str} (h : EvD to σ H (.str a)) (hz : a.length ≤ 100000) : EvD (tM0 rUpper to) σ H (.str (Txt.upper a)) := fun H1 e Q q =>
  h H1 e _ fun v H2 e2 iv => ⟨⟨a, iv.s⟩, a, iv.s, rfl, by omega, q _ H2 e2 (.str _)⟩
/-! ### calls of pure defs -/
def SpP (dom : List PyData → Prop) (f : List PyData → PyData) : Sp := fun vs H Q _ => ∃ ds, Ims H vs ds ∧ dom ds ∧ ∀ v H', Ex H H' → Im H' v (f ds) → Q v H'
theorem ed_call {dom : List PyData → Prop} {f : List PyData → PyData} {E : XK} {ta : TA} (h : EvDs ta σ H ds) (hd : dom ds) : EvD (tCall (SpP dom f) [] E ta) σ H (f ds) := fun H1 e Q q =>
  h H1 e _ fun vs H2 e2 i2 => ⟨ds, by rw [List.append_nil]; exact i2, hd, fun v H3 e3 i3 => q v H3 (e2.trans e3) i3⟩
/-- by a relation of arguments and result -/
def SpQ (R : List PyData → PyData → Prop) : Sp := fun vs H Q _ => ∃ ds d, Ims H vs ds ∧ R ds d ∧ ∀ v H', Ex H H' → Im H' v d → Q v H'
theorem ed_callQ {R : List PyData → PyData → Prop} {E : XK} {ta : TA} (h : EvDs ta σ H ds) (hd : R ds d) : EvD (tCall (SpQ R) [] E ta) σ H d := fun H1 e Q q =>
  h H1 e _ fun vs H2 e2 i2 => ⟨ds, d, by rw [List.append_nil]; exact i2, hd, fun v H3 e3 i3 => q v H3 (e2.trans e3) i3⟩
theorem SpQ.len {R : List PyData → PyData → Prop} {n : Nat} (h : ∀ ds d, R ds d → ds.length = n) : ∀ vs H Q E, SpQ R vs H Q E → vs.length = n := fun vs H Q E ⟨ds, d, i, r, _⟩ => by rw [i.length]; exact h ds d r
/-- slices of data -/
theorem cutD_from (k : Nat) (ds : List PyData) : cutD ds (some (k : Int)) none = ds.drop k := by
  unfold cutD
  rw [HT.sIx_nat, HT.sIx_none]
  rcases Nat.le_total k ds.length with h | h
  · rw [Nat.min_eq_left h, List.take_of_length_le (by simp)]
  · rw [Nat.min_eq_right h]
    simp [List.drop_eq_nil_of_le h]
theorem cutD_to (k : Nat) (ds : List PyData) : cutD ds none (some (k : Int)) = ds.take k := by
  unfold cutD
  rw [HT.sIx_nat, HT.sIx_none, List.drop_zero, Nat.sub_zero]
  rcases Nat.le_total k ds.length with h | h
  · rw [Nat.min_eq_left h]
  · rw [Nat.min_eq_right h, List.take_of_length_le (Nat.le_refl _), List.take_of_length_le h]
theorem cutD_init (ds : List PyData) : cutD ds none (some (-1)) = ds.dropLast := by
  unfold cutD
  have e : HT.sIx ds.length ds.length (some (-1)) = ds.length - 1 := by
    show (if (-1 : Int) < 0 then ((-1 : Int) + (ds.length : Int)).toNat else min (-1 : Int).toNat ds.length) = ds.length - 1
    rw [if_pos (by omega)]
    omega
  rw [e, HT.sIx_none, List.drop_zero, Nat.sub_zero, List.dropLast_eq_take]
/-- shapes -/
theorem shaped_strs {ss : List Str} (h : ∀ w ∈ ss, PyData.strOk w = true) : SeqAt.shaped (.tuple (ss.map .str)) = true := by
  have c : ∀ l : List Str, (∀ w ∈ l, PyData.strOk w = true) → PyData.canLayAll0 (l.map .str) = true ∧ PyData.depthAll (l.map .str) = 0 := by
    intro l
    induction l with
    | nil => intro _; exact ⟨by simp [PyData.canLayAll0], by simp [PyData.depthAll]⟩
    | cons a l ih =>
      intro hl
      obtain ⟨i1, i2⟩ := ih fun w hw => hl w (List.mem_cons_of_mem _ hw)
      have ha := hl a (List.mem_cons_self ..)
      exact ⟨by simp [PyData.canLayAll0, PyData.canLay0, ha, i1], by simp [PyData.depthAll, PyData.depth, i2]⟩
  obtain ⟨c1, c2⟩ := c ss h
  unfold SeqAt.shaped
  simp [PyData.canLay0, PyData.depth, c1, c2]
theorem shaped_rows {sss : List (List Str)} (h : ∀ ss ∈ sss, ∀ w ∈ ss, PyData.strOk w = true) : SeqAt.shaped (.tuple (sss.map fun ss => .tuple (ss.map .str))) = true := by
  have c : ∀ l : List (List Str), (∀ ss ∈ l, ∀ w ∈ ss, PyData.strOk w = true) → PyData.canLayAll0 (l.map fun ss => .tuple (ss.map .str)) = true ∧ PyData.depthAll (l.map fun ss => .tuple (ss.map .str)) ≤ 63 := by
    intro l
    induction l with
    | nil => intro _; exact ⟨by simp [PyData.canLayAll0], by simp [PyData.depthAll]⟩
    | cons a l ih =>
      intro hl
      obtain ⟨i1, i2⟩ := ih fun w hw => hl w (List.mem_cons_of_mem _ hw)
      have ha := shaped_strs (hl a (List.mem_cons_self ..))
      unfold SeqAt.shaped at ha
      simp only [Bool.and_eq_true, decide_eq_true_eq] at ha
      have hd : PyData.depth (.tuple (a.map .str)) ≤ 63 := by
        have z : ∀ m : List Str, PyData.depthAll (m.map .str) = 0 := by
          intro m
          induction m with
          | nil => simp [PyData.depthAll]
          | cons b m ih2 => simp [PyData.depthAll, PyData.depth, ih2]
        simp [PyData.depth, z a]
      refine ⟨by simp only [List.map_cons, PyData.canLayAll0, ha.1, i1, Bool.and_self], ?_⟩
      simp only [List.map_cons, PyData.depthAll]
      omega
  obtain ⟨c1, c2⟩ := c sss h
  unfold SeqAt.shaped
  have e : decide (PyData.depth (.tuple (sss.map fun ss => .tuple (ss.map .str))) ≤ 64) = true := by
    rw [decide_eq_true_eq]
    show PyData.depthAll (sss.map fun ss => .tuple (ss.map .str)) + 1 ≤ 64
    omega
  rw [e]
  show (PyData.canLayAll0 (sss.map fun ss => .tuple (ss.map .str)) && true) = true
  rw [c1]; rfl
theorem eqv_nil (ds : List PyData) : PyData.eqv (.tuple ds) (.tuple []) = ds.isEmpty := by
  cases ds <;> simp [PyData.eqv, PyData.eqvAll]
theorem shaped_nil : SeqAt.shaped (.tuple []) = true := by decide
/-! ### what is walked -/
/-- wi walks data src -/
def Wk (wi : TI) (σ : L2.St) (H : Hp) (src : List PyData) : Prop := ∀ H1, Ex H H1 → ∀ R : It → Hp → Prop,
  (∀ J H2 G Y, Ex H1 H2 → Walk J src.length G Y → (∀ H3, Ex H2 H3 → G H3) → (∀ i H3 x H4, Ex H2 H3 → Y i H3 x H4 → Ex H3 H4 ∧ ∃ d, src[i]? = some d ∧ Im H4 x d) → R J H2) → wi σ H1 R
theorem Wk.mono {wi : TI} {src : List PyData} (e : Ex H H') (h : Wk wi σ H src) : Wk wi σ H' src := fun H1 a R r => h H1 (e.trans a) R r
theorem wk_tup (h : EvD tl σ H (.tuple ds)) : Wk (iTup K tl) σ H ds := fun H1 e R r =>
  h H1 e _ fun v H2 e2 iv => by
    obtain ⟨p, xs, rfl, g1, g2⟩ := iv.t
    refine ⟨p, rfl, ⟨xs, SqT.of g1⟩, r _ H2 (fun H => SqT K H p xs) (YAt xs) e2 (by rw [← g2.length]; exact walk_tup) (fun H3 e3 => SqT.of (e3 _ _ g1)) fun i H3 x H4 e3 yy => ?_⟩
    obtain ⟨rfl, hx⟩ := yy
    obtain ⟨d, hd, im⟩ := (g2.mono e3).get hx
    exact ⟨Ex.refl _, d, hd, im⟩
theorem wk_list (h : EvD tl σ H (.list ds)) : Wk (iList K tl) σ H ds := fun H1 e R r =>
  h H1 e _ fun v H2 e2 iv => by
    obtain ⟨p, xs, rfl, g1, g2⟩ := iv.l
    refine ⟨p, rfl, ⟨xs, SqL.of g1⟩, r _ H2 (fun H => SqL K H p xs) (YAt xs) e2 (by rw [← g2.length]; exact walk_list) (fun H3 e3 => SqL.of (e3 _ _ g1)) fun i H3 x H4 e3 yy => ?_⟩
    obtain ⟨rfl, hx⟩ := yy
    obtain ⟨d, hd, im⟩ := (g2.mono e3).get hx
    exact ⟨Ex.refl _, d, hd, im⟩
/-- a text's signs -/
def signs (z : Str) : List PyData := z.cps.toList.map fun c => .str ⟨#[c]⟩
theorem wk_str {z : Str} (h : EvD tl σ H (.str z)) : Wk (iStr tl) σ H (signs z) := fun H1 e R r =>
  h H1 e _ fun v H2 e2 iv => by
    refine ⟨z, iv.s, r _ H2 (fun _ => True) (fun i H v H' => H' = H ∧ ∃ c, z.cps[i]? = some c ∧ v = .str ⟨#[c]⟩) e2 (by
      have : (signs z).length = z.cps.size := by simp [signs]
      rw [this]; exact walk_str) (fun _ _ => trivial) fun i H3 x H4 e3 yy => ?_⟩
    obtain ⟨rfl, c, hc, rfl⟩ := yy
    refine ⟨Ex.refl _, .str ⟨#[c]⟩, ?_, .str _⟩
    unfold signs
    rw [List.getElem?_map]
    have : z.cps.toList[i]? = some c := by simpa using hc
    rw [this]; rfl
theorem zip_get {α β : Type} : ∀ {xs : List α} {ys : List β} {i : Nat} {x : α} {y : β}, xs[i]? = some x → ys[i]? = some y → (xs.zip ys)[i]? = some (x, y)
  | [], _, _, _, _, h, _ => by simp at h
  | _ :: _, [], _, _, _, _, h => by simp at h
  | x :: xs, y :: ys, 0, _, _, h1, h2 => by simp at h1 h2; subst h1; subst h2; rfl
  | x :: xs, y :: ys, i + 1, _, _, h1, h2 => by simp at h1 h2; simpa using zip_get h1 h2
def pairs (ds es : List PyData) : List PyData := (ds.zip es).map fun p => .tuple [p.1, p.2]
theorem wk_zipT {ta : TA} (h : EvDs ta σ H [.tuple ds, .tuple es]) : Wk (RZ.iZipA K ta) σ H (pairs ds es) := fun H1 e R r =>
  h H1 e _ fun vs H2 e2 iv => by
    obtain ⟨v, w, rfl, i1, i2⟩ := iv.two
    obtain ⟨p, xs, rfl, g1, g2⟩ := i1.t
    obtain ⟨p', xs', rfl, g1', g2'⟩ := i2.t
    refine ⟨p, p', xs, xs', rfl, .inr ⟨SqT.of g1, SqT.of g1', r _ H2 (fun H => SqT K H p xs ∧ SqT K H p' xs') (YPair (fun i => xs[i]?) (fun i => xs'[i]?)) e2 ?_ (fun H3 e3 => ⟨SqT.of (e3 _ _ g1), SqT.of (e3 _ _ g1')⟩) fun i H3 x H4 e3 yy => ?_⟩⟩
    · have hn : (pairs ds es).length = min xs.length xs'.length := by simp [pairs, g2.length, g2'.length]
      rw [hn]
      refine ⟨fun i _ hi q => ?_, fun _ q => ⟨xs, xs', q.1, q.2, by omega⟩, fun i H v H' _ q y => ?_⟩
      · have h1 : i < xs.length := by omega
        have h2 : i < xs'.length := by omega
        exact ⟨xs, xs', xs[i], xs'[i], q.1, q.2, by simp [h1], by simp [h2]⟩
      · obtain ⟨T, x, z, h1, h2, h3, h4, h5⟩ := y
        exact ⟨T, x, z, h1, h2, h3, h4 xs q.1, h5 xs' q.2⟩
    · obtain ⟨T, a, b, rfl, hT, rfl, ha, hb⟩ := yy
      obtain ⟨d1, hd1, im1⟩ := (g2.mono e3).get ha
      obtain ⟨d2, hd2, im2⟩ := (g2'.mono e3).get hb
      refine ⟨Ex.new hT, .tuple [d1, d2], ?_, .tup upd_same (.cons (im1.mono (Ex.new hT)) (.cons (im2.mono (Ex.new hT)) .nil))⟩
      unfold pairs
      rw [List.getElem?_map, zip_get hd1 hd2] <;> rfl
theorem wk_zipL {ta : TA} (h : EvDs ta σ H [.list ds, .list es]) : Wk (RZ.iZipA K ta) σ H (pairs ds es) := fun H1 e R r =>
  h H1 e _ fun vs H2 e2 iv => by
    obtain ⟨v, w, rfl, i1, i2⟩ := iv.two
    obtain ⟨p, xs, rfl, g1, g2⟩ := i1.l
    obtain ⟨p', xs', rfl, g1', g2'⟩ := i2.l
    refine ⟨p, p', xs, xs', rfl, .inl ⟨SqL.of g1, SqL.of g1', r _ H2 (fun H => SqL K H p xs ∧ SqL K H p' xs') (YPair (fun i => xs[i]?) (fun i => xs'[i]?)) e2 ?_ (fun H3 e3 => ⟨SqL.of (e3 _ _ g1), SqL.of (e3 _ _ g1')⟩) fun i H3 x H4 e3 yy => ?_⟩⟩
    · have hn : (pairs ds es).length = min xs.length xs'.length := by simp [pairs, g2.length, g2'.length]
      exact walk_zip hn
    · obtain ⟨T, a, b, rfl, hT, rfl, ha, hb⟩ := yy
      obtain ⟨d1, hd1, im1⟩ := (g2.mono e3).get ha
      obtain ⟨d2, hd2, im2⟩ := (g2'.mono e3).get hb
      refine ⟨Ex.new hT, .tuple [d1, d2], ?_, .tup upd_same (.cons (im1.mono (Ex.new hT)) (.cons (im2.mono (Ex.new hT)) .nil))⟩
      unfold pairs
      rw [List.getElem?_map, zip_get hd1 hd2] <;> rfl
/-- enumerate -/
def numbered : Nat → List PyData → List PyData
  | _, [] => []
  | n, d :: ds => .tuple [.int (n : Nat), d] :: numbered (n + 1) ds
theorem numbered_length : ∀ (ds : List PyData) (n : Nat), (numbered n ds).length = ds.length
  | [], _ => rfl
  | d :: ds, n => by simp [numbered, numbered_length ds]
theorem numbered_get : ∀ (ds : List PyData) (n i : Nat) (d : PyData), ds[i]? = some d → (numbered n ds)[i]? = some (.tuple [.int ((n + i : Nat) : Int), d])
  | [], _, _, _, h => by simp at h
  | d :: ds, n, 0, _, h => by simp at h; subst h; simp [numbered]
  | d :: ds, n, i + 1, e, h => by
    have ih := numbered_get ds (n + 1) i e (by simpa using h)
    simp only [numbered, List.getElem?_cons_succ, ih]
    have : n + 1 + i = n + (i + 1) := by omega
    rw [this]
theorem wk_enumL {ta : TA} (h : EvDs ta σ H [.list ds]) : Wk (iEnum K ta) σ H (numbered 0 ds) := fun H1 e R r =>
  h H1 e _ fun vs H2 e2 iv => by
    obtain ⟨v, rfl, i1⟩ := iv.one
    obtain ⟨p, xs, rfl, g1, g2⟩ := i1.l
    refine ⟨p, xs, rfl, SqL.of g1, r _ H2 (fun H => SqL K H p xs) (YPair (fun i => some (.int (i : Nat))) (fun i => xs[i]?)) e2 (by rw [numbered_length, ← g2.length]; exact walk_enum) (fun H3 e3 => SqL.of (e3 _ _ g1)) fun i H3 x H4 e3 yy => ?_⟩
    obtain ⟨T, a, b, rfl, hT, rfl, ha, hb⟩ := yy
    obtain ⟨d2, hd2, im2⟩ := (g2.mono e3).get hb
    have ea : a = .int (i : Nat) := (Option.some.inj ha).symm
    subst ea
    refine ⟨Ex.new hT, .tuple [.int (i : Nat), d2], ?_, .tup upd_same (.cons (.int _) (.cons (im2.mono (Ex.new hT)) .nil))⟩
    have := numbered_get ds 0 i d2 hd2
    rw [Nat.zero_add] at this
    exact this
/-! ### comprehensions -/
theorem tx_lst {D : Addr} {acc ys : List V} (h : H D = some (.lst acc)) : Tx H (upd H D (.lst ys)) := fun a xs ha => by
  rw [upd_ne (fun z => by subst z; rw [h] at ha; cases ha)]
  exact ha
theorem stills_of {α : Type} {f : α → PyData} : ∀ {l : List α}, (∀ d ∈ l, still (f d) = true) → stills (l.map f) = true
  | [], _ => rfl
  | d :: l, h => by
    show (still (f d) && stills (l.map f)) = true
    rw [h d (List.mem_cons_self ..), stills_of fun e he => h e (List.mem_cons_of_mem _ he)]
    rfl
theorem take_more {α : Type} : ∀ {l : List α} {i : Nat} {x : α}, l[i]? = some x → l.take (i + 1) = l.take i ++ [x]
  | [], i, x, h => by simp at h
  | a :: l, 0, x, h => by simp at h; subst h; rfl
  | a :: l, i + 1, x, h => by
    have ih := take_more (l := l) (i := i) (x := x) (by simpa using h)
    show a :: l.take (i + 1) = a :: l.take i ++ [x]
    rw [ih]; rfl
/-- a comprehension over data that comes from a list l of things: what each thing gives -/
theorem en_lcG {α : Type} {wi : TI} {g : TG} {tt : TT} {vs : List Nat} {l : List α} {emb : α → PyData} (f : α → PyData) (c : α → Bool) (hk : Wk wi σ H (l.map emb)) (hz : l.length ≤ 40000)
    (hb : ∀ d, d ∈ l → ∀ x H1, Ex H H1 → Im H1 x (emb d) → ∀ K' : L2.St → Hp → Prop, (∀ σ2, wipe σ2 vs = wipe σ vs → EvT tt σ2 H1 (c d) → (c d = true → EvD te σ2 H1 (f d)) → K' σ2 H1) → g x (wipe σ vs) H1 K')
    (hs : ∀ d ∈ l, c d = true → still (f d) = true) : EvN (tLc wi g tt te vs) σ H ((l.filter c).map f) := fun H0 e0 Q q =>
  hk H0 e0 _ fun J H2 G Y e2 W hG hY D hD => by
    have still_take : ∀ i, stills (((l.take i).filter c).map f) = true := fun i => by
      have key : ∀ m : List α, (∀ d ∈ m, c d = true → still (f d) = true) → stills ((m.filter c).map f) = true := by
        intro m
        induction m with
        | nil => intro _; rfl
        | cons d m ih =>
          intro hm
          have ih' := ih fun e he => hm e (List.mem_cons_of_mem _ he)
          cases hc : c d with
          | true =>
            rw [List.filter_cons_of_pos hc]
            show (still (f d) && stills ((m.filter c).map f)) = true
            rw [hm d (List.mem_cons_self ..) hc, ih']; rfl
          | false => rw [List.filter_cons_of_neg (by rw [hc]; decide)]; exact ih'
      exact key _ fun d hd hc => hs d (List.mem_of_mem_take hd) hc
    rw [List.length_map] at W
    refine lc_it W (fun i H' => Ex H2 H' ∧ ∃ acc, H' D = some (.lst acc) ∧ acc.length ≤ i ∧ Ims H' acc (((l.take i).filter c).map f))
      ⟨Ex.new hD, [], upd_same, Nat.le_refl _, .nil⟩ (fun i H' _ p => hG H' p.1) (fun i x H3 H4 hi p y => ?_) fun H' p => ?_
    · obtain ⟨p1, acc, p2, p4, p3⟩ := p
      obtain ⟨e34, d0, hd0, im⟩ := hY i H3 x H4 p1 y
      rw [List.getElem?_map] at hd0
      obtain ⟨d, hd, rfl⟩ : ∃ d, l[i]? = some d ∧ emb d = d0 := by
        cases e : l[i]? with
        | none => rw [e] at hd0; cases hd0
        | some d => rw [e] at hd0; exact ⟨d, rfl, Option.some.inj hd0⟩
      have hm : d ∈ l := List.mem_of_getElem? hd
      refine hb d hm x H4 ((e0.trans e2).trans (p1.trans e34)) im _ fun σ2 hσ hT hE => ⟨hσ, ?_⟩
      refine hT H4 (Ex.refl H4) _ fun H5 e45 => ?_
      have more := take_more hd
      cases hc : c d with
      | true =>
        show te σ2 H5 _
        refine hE hc H5 e45 _ fun v H6 e56 iv => ⟨acc, ((e34.trans e45).trans e56) D _ p2, sz_lt (by omega), Ex.mut (((p1.trans e34).trans e45).trans e56) hD, acc ++ [v], upd_same, by rw [List.length_append, List.length_singleton]; omega, ?_⟩
        have hacc := ((e34.trans e45).trans e56) D _ p2
        have t6 : Tx H6 (upd H6 D (.lst (acc ++ [v]))) := tx_lst hacc
        rw [more, List.filter_append, List.map_append]
        have ef : List.filter c [d] = [d] := by simp [hc]
        rw [ef]
        exact Ims.append ((p3.mono ((e34.trans e45).trans e56)).tx t6 (still_take i)) (.cons (iv.tx t6 (hs d hm hc)) .nil)
      | false =>
        show Ex H2 H5 ∧ _
        refine ⟨(p1.trans e34).trans e45, acc, (e34.trans e45) D _ p2, by omega, ?_⟩
        rw [more, List.filter_append]
        have ef : List.filter c [d] = [] := by simp [hc]
        rw [ef, List.append_nil]
        exact p3.mono (e34.trans e45)
    · obtain ⟨p1, acc, p2, _, p3⟩ := p
      rw [List.take_length] at p3
      exact q D acc H' (fresh_back e2 hD) (e2.trans p1) p2 p3
/-- the target a name -/
theorem en_lc {α : Type} {wi : TI} {tt : TT} {j : Nat} {vs : List Nat} {l : List α} {emb : α → PyData} (f : α → PyData) (c : α → Bool) (hk : Wk wi σ H (l.map emb)) (hz : l.length ≤ 40000)
    (hb : ∀ d, d ∈ l → ∀ x H1, Ex H H1 → Im H1 x (emb d) → EvT tt ((wipe σ vs).set j (some x)) H1 (c d) ∧ (c d = true → EvD te ((wipe σ vs).set j (some x)) H1 (f d)))
    (hs : ∀ d ∈ l, c d = true → still (f d) = true) (hw : ∀ x, wipe ((wipe σ vs).set j (some x)) vs = wipe σ vs := by intro x; rfl) : EvN (tLc wi (gName j) tt te vs) σ H ((l.filter c).map f) :=
  en_lcG f c hk hz (fun d hd x H1 e im K' k => k _ (hw x) (hb d hd x H1 e im).1 (hb d hd x H1 e im).2) hs
theorem et_yes : EvT tYes σ H true := fun H1 _ _ q => q H1 (Ex.refl H1)
/-- .. without a test -/
theorem en_lcM {α : Type} {wi : TI} {j : Nat} {vs : List Nat} {l : List α} {emb : α → PyData} (f : α → PyData) (hk : Wk wi σ H (l.map emb)) (hz : l.length ≤ 40000)
    (hb : ∀ d, d ∈ l → ∀ x H1, Ex H H1 → Im H1 x (emb d) → EvD te ((wipe σ vs).set j (some x)) H1 (f d))
    (hs : ∀ d ∈ l, still (f d) = true) (hw : ∀ x, wipe ((wipe σ vs).set j (some x)) vs = wipe σ vs := by intro x; rfl) : EvN (tLc wi (gName j) tYes te vs) σ H (l.map f) := by
  have h := en_lc (tt := tYes) (α := α) f (fun _ => true) hk hz (fun d hd x H1 e im => ⟨et_yes, fun _ => hb d hd x H1 e im⟩) (fun d hd _ => hs d hd) hw
  rw [List.filter_eq_self.mpr (fun _ _ => rfl)] at h
  exact h
/-- the target a pair of names -/
theorem en_lcP {α : Type} {wi : TI} {i j : Nat} {vs : List Nat} {l : List α} {e1 e2 : α → PyData} (f : α → PyData) (hk : Wk wi σ H (l.map fun a => .tuple [e1 a, e2 a])) (hz : l.length ≤ 40000)
    (hb : ∀ d, d ∈ l → ∀ x y H1, Ex H H1 → Im H1 x (e1 d) → Im H1 y (e2 d) → EvD te (((wipe σ vs).set i (some x)).set j (some y)) H1 (f d))
    (hs : ∀ d ∈ l, still (f d) = true) (hw : ∀ x y, wipe (((wipe σ vs).set i (some x)).set j (some y)) vs = wipe σ vs := by intro x y; rfl) : EvN (tLc wi (gTup K 2 (gCons (gName i) (gCons (gName j) gNil))) tYes te vs) σ H (l.map f) := by
  have h := en_lcG (te := te) (α := α) (g := gTup K 2 (gCons (gName i) (gCons (gName j) gNil))) (tt := tYes) (vs := vs) f (fun _ => true) hk hz (fun d hd x H1 e im K' k => by
    obtain ⟨p, xs, rfl, g1, g2⟩ := im.t
    obtain ⟨a, b, rfl, ia, ib⟩ := g2.two
    refine ⟨p, [a, b], rfl, SqT.of g1, rfl, a, [b], rfl, b, [], rfl, rfl, ?_⟩
    exact k _ (hw a b) et_yes fun _ => hb d hd a b H1 e ia ib) (fun d hd _ => hs d hd)
  rw [List.filter_eq_self.mpr (fun _ _ => rfl)] at h
  exact h
theorem pairs_map {α β : Type} (e1 : α → PyData) (e2 : β → PyData) : ∀ (l : List α) (m : List β), pairs (l.map e1) (m.map e2) = (l.zip m).map fun p => .tuple [e1 p.1, e2 p.2]
  | [], _ => rfl
  | _ :: _, [] => rfl
  | a :: l, b :: m => by
    have ih := pairs_map e1 e2 l m
    unfold pairs at ih ⊢
    simp only [List.map_cons, List.zip_cons_cons, ih]
/-- a text's signs -/
theorem en_lcS {j : Nat} {vs : List Nat} {z : Str} (f : Nat → PyData) (h : EvD tl σ H (.str z)) (hz : z.length ≤ 40000)
    (hb : ∀ c, c ∈ z.cps.toList → ∀ H1, Ex H H1 → EvD te ((wipe σ vs).set j (some (.str ⟨#[c]⟩))) H1 (f c))
    (hs : ∀ d ∈ z.cps.toList, still (f d) = true) (hw : ∀ x, wipe ((wipe σ vs).set j (some x)) vs = wipe σ vs := by intro x; rfl) : EvN (tLc (iStr tl) (gName j) tYes te vs) σ H (z.cps.toList.map f) :=
  en_lcM (l := z.cps.toList) (emb := fun c => .str ⟨#[c]⟩) f (wk_str h) (by simpa [Str.length] using hz) (fun c hc x H1 e im => by rw [im.s]; exact hb c hc H1 e) hs hw
/-! ### statements -/
variable {D : Ends} {tu tw tz : TS} {g : TG}
theorem s_asgD {i : Nat} (h : EvD te σ H d) (k : ∀ v H1, Ex H H1 → Im H1 v d → D.nx (σ.set i (some v)) H1) : tAsg te (gName i) D σ H := h H (Ex.refl H) _ fun v H1 e iv => k v H1 e iv
theorem q_asgD {i : Nat} (h : EvD te σ H d) (k : ∀ v H1, Ex H H1 → Im H1 v d → tz D (σ.set i (some v)) H1) : tSeq (tAsg te (gName i)) tz D σ H := s_asgD (D := { D with nx := tz D }) h k
theorem q_asgN {i : Nat} (h : EvN te σ H ds) (k : ∀ p xs H1, H p = none → Ex H H1 → H1 p = some (.lst xs) → Ims H1 xs ds → tz D (σ.set i (some (.ref p))) H1) : tSeq (tAsg te (gName i)) tz D σ H := h H (Ex.refl H) _ fun p xs H1 n e a b => k p xs H1 n e a b
theorem s_retD (h : EvD te σ H d) (k : ∀ v H1, Ex H H1 → Im H1 v d → D.rt v H1) : tRet te D σ H := h H (Ex.refl H) _ fun v H1 e iv => k v H1 e iv
/-- xs.append(e) of still data -/
theorem s_appD {l : Addr} {xs : List V} (hl : H l = some (.lst xs)) (ha : Ev ta σ H (.ref l)) (h : EvD te σ H d) (hs : still d = true) (hz : xs.length < 100000) (k : ∀ v H1, Ex H H1 → H1 l = some (.lst xs) → Im (upd H1 l (.lst (xs ++ [v]))) v d → D.nx σ (upd H1 l (.lst (xs ++ [v])))) :
    tDrop (tBM K "list" rAppend ta (tCons te tNil)) D σ H := ha H (Ex.refl H) _ fun H1 e1 =>
  ⟨Or.inl ⟨rfl, xs, sq_of (e1 l _ hl)⟩, h H1 e1 _ fun v H2 e2 iv => ⟨l, xs, v, rfl, rfl, e2 l _ (e1 l _ hl), sz_lt hz, k v H2 (e1.trans e2) (e2 l _ (e1 l _ hl)) (iv.tx (tx_lst (e2 l _ (e1 l _ hl))) hs)⟩⟩
/-! ### frames: what a part of a program may change -/
/-- all but the objects at M is as it was; the tuples stay -/
def ExM (M : List Addr) (H H' : Hp) : Prop := (∀ a o, a ∉ M → H a = some o → H' a = some o) ∧ Tx H H'
theorem ExM.refl (M : List Addr) (H : Hp) : ExM M H H := ⟨fun _ _ _ h => h, Tx.refl H⟩
theorem ExM.trans {M : List Addr} {H H1 H2 : Hp} (a : ExM M H H1) (b : ExM M H1 H2) : ExM M H H2 := ⟨fun x o n h => b.1 x o n (a.1 x o n h), a.2.trans b.2⟩
theorem ExM.of {M : List Addr} {H H' : Hp} (e : Ex H H') : ExM M H H' := ⟨fun a o _ h => e a o h, Tx.of e⟩
theorem ExM.upd {M : List Addr} {H : Hp} {l : Addr} {xs ys : List V} (hl : H l = some (.lst xs)) (hm : l ∈ M) : ExM M H (upd H l (.lst ys)) :=
  ⟨fun a o n h => by rw [upd_ne (fun z => n (by rw [z]; exact hm))]; exact h, tx_lst hl⟩
theorem ExM.weak {M M' : List Addr} {H H' : Hp} (e : ExM M H H') (h : ∀ a ∈ M, a ∈ M') : ExM M' H H' := ⟨fun a o n q => e.1 a o (fun z => n (h a z)) q, e.2⟩
theorem ExM.ex {H H' : Hp} (e : ExM [] H H') : Ex H H' := fun a o h => e.1 a o (by simp) h
/-- a fresh object may change: it is no part of what is kept -/
theorem ExM.ex_of {M : List Addr} {H0 H H' : Hp} (e0 : Ex H0 H) (hM : ∀ a ∈ M, H0 a = none) (e : ExM M H H') : Ex H0 H' := fun a o h =>
  e.1 a o (fun z => by rw [hM a z] at h; cases h) (e0 a o h)
theorem Im.m {M : List Addr} (e : ExM M H H') (s : still d = true) (h : Im H v d) : Im H' v d := h.tx e.2 s
/-- wi walks data src while all but M stays -/
def WkM (M : List Addr) (wi : TI) (σ : L2.St) (H : Hp) (src : List PyData) : Prop := ∀ H1, Ex H H1 → ∀ R : It → Hp → Prop,
  (∀ J H2 G Y, Ex H1 H2 → Walk J src.length G Y → (∀ H3, ExM M H2 H3 → G H3) → (∀ i H3 x H4, ExM M H2 H3 → Y i H3 x H4 → Ex H3 H4 ∧ ∃ d, src[i]? = some d ∧ Im H4 x d) → R J H2) → wi σ H1 R
theorem wm_tup {M : List Addr} (h : EvD tl σ H (.tuple ds)) (hs : stills ds = true) : WkM M (iTup K tl) σ H ds := fun H1 e R r =>
  h H1 e _ fun v H2 e2 iv => by
    obtain ⟨p, xs, rfl, g1, g2⟩ := iv.t
    refine ⟨p, rfl, ⟨xs, SqT.of g1⟩, r _ H2 (fun H => SqT K H p xs) (YAt xs) e2 (by rw [← g2.length]; exact walk_tup) (fun H3 e3 => SqT.of (e3.2 _ _ g1)) fun i H3 x H4 e3 yy => ?_⟩
    obtain ⟨rfl, hx⟩ := yy
    obtain ⟨d, hd, im⟩ := (g2.tx e3.2 hs).get hx
    exact ⟨Ex.refl _, d, hd, im⟩
/-- over a new list -/
theorem wm_new {M : List Addr} (h : EvN tl σ H ds) (hM : ∀ a ∈ M, H a ≠ none) (hs : stills ds = true) : WkM M (iList K tl) σ H ds := fun H1 e R r =>
  h H1 e _ fun p xs H2 n2 e2 g1 g2 => by
    have hp : p ∉ M := fun z => hM p z (fresh_back e n2)
    refine ⟨p, rfl, ⟨xs, SqL.of g1⟩, r _ H2 (fun H => SqL K H p xs) (YAt xs) e2 (by rw [← g2.length]; exact walk_list) (fun H3 e3 => SqL.of (e3.1 _ _ hp g1)) fun i H3 x H4 e3 yy => ?_⟩
    obtain ⟨rfl, hx⟩ := yy
    obtain ⟨d, hd, im⟩ := (g2.tx e3.2 hs).get hx
    exact ⟨Ex.refl _, d, hd, im⟩
/-- over a list at p -/
theorem wm_at {M : List Addr} {p : Addr} {xs : List V} (h : Ev tl σ H (.ref p)) (g1 : H p = some (.lst xs)) (g2 : Ims H xs ds) (hp : p ∉ M) (hs : stills ds = true) : WkM M (iList K tl) σ H ds := fun H1 e R r =>
  h H1 e _ fun H2 e2 => by
    have g1 := (e.trans e2) _ _ g1
    have g2 := g2.mono (e.trans e2)
    refine ⟨p, rfl, ⟨xs, SqL.of g1⟩, r _ H2 (fun H => SqL K H p xs) (YAt xs) e2 (by rw [← g2.length]; exact walk_list) (fun H3 e3 => SqL.of (e3.1 _ _ hp g1)) fun i H3 x H4 e3 yy => ?_⟩
    obtain ⟨rfl, hx⟩ := yy
    obtain ⟨d, hd, im⟩ := (g2.tx e3.2 hs).get hx
    exact ⟨Ex.refl _, d, hd, im⟩
theorem wm_enumAt {M : List Addr} {p : Addr} {xs : List V} (h : Ev tl σ H (.ref p)) (g1 : H p = some (.lst xs)) (g2 : Ims H xs ds) (hp : p ∉ M) (hs : stills ds = true) : WkM M (iEnum K (tCons tl tNil)) σ H (numbered 0 ds) := fun H1 e R r =>
  h H1 e _ fun H2 e2 => by
    have g1 := (e.trans e2) _ _ g1
    have g2 := g2.mono (e.trans e2)
    refine ⟨p, xs, rfl, SqL.of g1, r _ H2 (fun H => SqL K H p xs) (YPair (fun i => some (.int (i : Nat))) (fun i => xs[i]?)) e2 (by rw [numbered_length, ← g2.length]; exact walk_enum) (fun H3 e3 => SqL.of (e3.1 _ _ hp g1)) fun i H3 x H4 e3 yy => ?_⟩
    obtain ⟨T, a, b, rfl, hT, rfl, ha, hb⟩ := yy
    obtain ⟨d2, hd2, im2⟩ := (g2.tx e3.2 hs).get hb
    have ea : a = .int (i : Nat) := (Option.some.inj ha).symm
    subst ea
    refine ⟨Ex.new hT, .tuple [.int (i : Nat), d2], ?_, .tup upd_same (.cons (.int _) (.cons (im2.mono (Ex.new hT)) .nil))⟩
    have := numbered_get ds 0 i d2 hd2
    rw [Nat.zero_add] at this
    exact this
theorem wm_enumNew {M : List Addr} (h : EvN tl σ H ds) (hM : ∀ a ∈ M, H a ≠ none) (hs : stills ds = true) : WkM M (iEnum K (tCons tl tNil)) σ H (numbered 0 ds) := fun H1 e R r =>
  h H1 e _ fun p xs H2 n2 e2 g1 g2 => by
    have hp : p ∉ M := fun z => hM p z (fresh_back e n2)
    refine ⟨p, xs, rfl, SqL.of g1, r _ H2 (fun H => SqL K H p xs) (YPair (fun i => some (.int (i : Nat))) (fun i => xs[i]?)) e2 (by rw [numbered_length, ← g2.length]; exact walk_enum) (fun H3 e3 => SqL.of (e3.1 _ _ hp g1)) fun i H3 x H4 e3 yy => ?_⟩
    obtain ⟨T, a, b, rfl, hT, rfl, ha, hb⟩ := yy
    obtain ⟨d2, hd2, im2⟩ := (g2.tx e3.2 hs).get hb
    have ea : a = .int (i : Nat) := (Option.some.inj ha).symm
    subst ea
    refine ⟨Ex.new hT, .tuple [.int (i : Nat), d2], ?_, .tup upd_same (.cons (.int _) (.cons (im2.mono (Ex.new hT)) .nil))⟩
    have := numbered_get ds 0 i d2 hd2
    rw [Nat.zero_add] at this
    exact this
theorem wm_range {M : List Addr} {ta : TA} {n : Nat} (h : EvDs ta σ H [.int (n : Int)]) (hn : n ≤ 100000) : WkM M (iRng1 ta) σ H ((List.range n).map fun i => .int (i : Nat)) := fun H1 e R r =>
  h H1 e _ fun vs H2 e2 iv => by
    obtain ⟨v, rfl, i1⟩ := iv.one
    refine ⟨(n : Int), by rw [i1.i], by omega, by omega, r _ H2 (fun _ => True) (fun i H x H' => i < n ∧ H' = H ∧ x = .int (0 + (i : Int))) e2 (by
      have : ((List.range n).map fun i => PyData.int (i : Nat)).length = (n : Int).toNat := by simp
      rw [this]
      exact ⟨fun _ _ hi _ => hi, fun _ _ => Nat.le_refl _, fun i _ _ _ hi _ y => ⟨by simpa using hi, y.1, y.2⟩⟩) (fun _ _ => trivial) fun i H3 x H4 e3 yy => ?_⟩
    obtain ⟨hi', rfl, rfl⟩ := yy
    have e0 : (0 : Int) + (i : Int) = (i : Int) := Int.zero_add _
    refine ⟨Ex.refl _, .int (i : Nat), ?_, by show Im H4 (.int ((0 : Int) + (i : Int))) _; rw [e0]; exact .int _⟩
    have hi := hi'
    simp [hi]
/-- THE FOR: Pv by the turn, the slots, the heap; a turn may change what stands at M -/
theorem s_forM {wi : TI} {src : List PyData} (M : List Addr) (hk : WkM M wi σ H src) (Pv : Nat → L2.St → Hp → Prop) (h0 : ∀ H1, Ex H H1 → Pv 0 σ H1)
    (hm : ∀ i σ' H1 H2, Pv i σ' H1 → Ex H1 H2 → Pv i σ' H2)
    (hs : ∀ i d x σ' H3 H4, src[i]? = some d → Ex H3 H4 → Im H4 x d → Pv i σ' H4 → g x σ' H4 fun σ2 H5 => tu { D with nx := fun σ3 H6 => Pv (i + 1) σ3 H6 ∧ ExM M H3 H6, ct := fun σ3 H6 => Pv (i + 1) σ3 H6 ∧ ExM M H3 H6, bk := D.nx } σ2 H5)
    (hd : ∀ σ' H', Pv src.length σ' H' → D.nx σ' H') : tFor wi g tu D σ H := by
  refine hk H (Ex.refl H) _ fun J H2 G Y e2 W hG hY => ?_
  refine ⟨fun i m σ' H' => m = src.length - i ∧ i ≤ src.length ∧ Pv i σ' H' ∧ ExM M H2 H', ⟨src.length, by simp, Nat.zero_le _, h0 H2 e2, ExM.refl M H2⟩, ?_⟩
  rintro i m σ' H3 ⟨rfl, hi, p, e3⟩
  by_cases hlt : i < src.length
  · refine .inr ⟨W.goes i H3 hlt (hG H3 e3), fun σ3 H6 => Pv (i + 1) σ3 H6 ∧ ExM M H3 H6, fun σ3 H6 q => ⟨src.length - (i + 1), by omega, rfl, hlt, q.1, e3.trans q.2⟩, fun x H4 y => ?_⟩
    obtain ⟨e34, d, hd', im⟩ := hY i H3 x H4 e3 (W.yields i H3 x H4 hlt (hG H3 e3) y)
    exact hs i d x σ' H3 H4 hd' e34 im (hm i σ' H3 H4 p e34)
  · have e : i = src.length := by omega
    subst e
    exact .inl ⟨W.stops H3 (hG H3 e3), hd σ' H3 p⟩
theorem q_forM {wi : TI} {src : List PyData} (M : List Addr) (hk : WkM M wi σ H src) (Pv : Nat → L2.St → Hp → Prop) (h0 : ∀ H1, Ex H H1 → Pv 0 σ H1)
    (hm : ∀ i σ' H1 H2, Pv i σ' H1 → Ex H1 H2 → Pv i σ' H2)
    (hs : ∀ i d x σ' H3 H4, src[i]? = some d → Ex H3 H4 → Im H4 x d → Pv i σ' H4 → g x σ' H4 fun σ2 H5 => tu { D with nx := fun σ3 H6 => Pv (i + 1) σ3 H6 ∧ ExM M H3 H6, ct := fun σ3 H6 => Pv (i + 1) σ3 H6 ∧ ExM M H3 H6, bk := tz D } σ2 H5)
    (hd : ∀ σ' H', Pv src.length σ' H' → tz D σ' H') : tSeq (tFor wi g tu) tz D σ H := s_forM (D := { D with nx := tz D }) M hk Pv h0 hm hs hd
/-- a pair's names -/
theorem g_pair {i j : Nat} {x : V} {d1 d2 : PyData} {R : L2.St → Hp → Prop} (h : Im H x (.tuple [d1, d2])) (k : ∀ a b, Im H a d1 → Im H b d2 → R ((σ.set i (some a)).set j (some b)) H) : gTup K 2 (gCons (gName i) (gCons (gName j) gNil)) x σ H R := by
  obtain ⟨p, xs, rfl, g1, g2⟩ := h.t
  obtain ⟨a, b, rfl, ia, ib⟩ := g2.two
  exact ⟨p, [a, b], rfl, SqT.of g1, rfl, a, [b], rfl, b, [], rfl, rfl, k a b ia ib⟩
end
end Pd
set_option Elab.async false
set_option linter.all false
set_option maxRecDepth 100000
set_option maxHeartbeats 2000000
/-! Cal: defs of the text by name, their promises, and their calls. -/
namespace Pd
open PySem PySem.Spec PyProof.Rows L2 Evl
/-- a def that stands behind a name, its promise kept -/
structure Cal (P : Program) (w : World) (K : PySem.W.Frag) (mg : Str → Option Value) (base : Heap) (CX : CXT) (k : Nat) (x : Str) (ps : List Str) (sp : Sp) : Prop where
  ex : ∃ (f : Addr) (fd : FuncData), mg x = some (.ref f) ∧ PySem.W.keepIn K (.ref f) = true ∧ Binds K fd ps [] ∧ FnOk P w K mg base CX k f fd ps sp
/-- a def of the text that stands behind its name -/
structure Src (K : PySem.W.Frag) (mg : Str → Option Value) (x : Str) (st : Stmt) (ps : List Str) : Prop where
  ex : ∃ (f : Addr) (fd : FuncData), mg x = some (.ref f) ∧ Fun K x x st f fd ∧ Binds K fd ps []
section
variable {P : Program} {w : World} {K : PySem.W.Frag} {mg : Str → Option Value} {base : Heap}
theorem Src.cal {x : Str} {st : Stmt} {N ps : List Str} {k : Nat} {sp : Sp} (F : Src K mg x st ps) (S : FnScope N ps (defScope st)) (len : ∀ vs H Q E, sp vs H Q E → vs.length = ps.length)
    (hbody : ∀ (f : Addr) (cdv : Value) (A : Around) (outer : List Env) (s : Shared) (H : Hp) (vs : List V) (Q : VK) (E : XK), Room k (A.deeper (envOfC x (defScope st) s.heap.objs.size f cdv)) → sp vs H Q E →
      ∃ t, PSs (cxOf CX0 P w K mg base N x (defScope st) f cdv A outer s H E).nox (defBody st) t ∧ t { nx := fun _ H' => Q .non H', rt := Q } (start N vs) H) : Cal P w K mg base CX0 (k + 1) x ps sp := by
  obtain ⟨f, fd, hm, hF, hb⟩ := F.ex
  exact ⟨f, fd, hm, hF.kp, hb, hF.ok S len fun cdv A outer s H vs Q E => hbody f cdv A outer s H vs Q E⟩
theorem Src.calX {x : Str} {st : Stmt} {N ps : List Str} {k : Nat} {sp : Sp} (F : Src K mg x st ps) (S : FnScope N ps (defScope st)) (len : ∀ vs H Q E, sp vs H Q E → vs.length = ps.length)
    (hbody : ∀ (f : Addr) (cdv : Value) (A : Around) (outer : List Env) (s : Shared) (H : Hp) (vs : List V) (Q : VK) (E : XK), Room k (A.deeper (envOfC x (defScope st) s.heap.objs.size f cdv)) → sp vs H Q E →
      ∃ t, PSs (cxOf (L2.CX P w) P w K mg base N x (defScope st) f cdv A outer s H E) (defBody st) t ∧ t { nx := fun _ H' => Q .non H', rt := Q } (start N vs) H) : Cal P w K mg base (L2.CX P w) (k + 1) x ps sp := by
  obtain ⟨f, fd, hm, hF, hb⟩ := F.ex
  exact ⟨f, fd, hm, hF.kp, hb, hF.okX S len fun cdv A outer s H vs Q E => hbody f cdv A outer s H vs Q E⟩
end
section
variable {X : Cx} {CX : CXT} {k : Nat} {ps : List Str} {sp : Sp} {E : XK} {x : Str} {p pos : Pos} {e : Expr} {es : List Expr} {t : TA}
theorem pe_cal (C : Cal X.prog X.w X.K X.mg X.base CX k x ps sp) (hr : Room k X.A) (hg : Gl X x) (hx : Passes CX X E)
    (ha : PA X (e :: es) t) (hdb : (x == ("__debug__" : Str)) = false := by decide) (he : starEach (e :: es) X.env = (false, eval e X.env) :: starEach es X.env := by rfl) (hpl : (backTo pos (starEach es X.env)).any (·.1) = false := by rfl) :
    PE X (.Call (.Name x p) (e :: es) [] pos) (tCall sp [] E t) := by
  obtain ⟨f, fd, hm, hk, hb, F⟩ := C.ex
  exact pe_call F hr hg hm hk hb .nil hx ha hdb he hpl
theorem pe_calS {W : WX} (C : Cal X.prog X.w X.K X.mg X.base (L2.CX X.prog X.w) k x ps sp) (hr : Room k X.A) (hg : Gl X x) (tk : Takes X W)
    (ha : PA X (e :: es) t) (hdb : (x == ("__debug__" : Str)) = false := by decide) (he : starEach (e :: es) X.env = (false, eval e X.env) :: starEach es X.env := by rfl) (hpl : (backTo pos (starEach es X.env)).any (·.1) = false := by rfl) :
    PE X (.Call (.Name x p) (e :: es) [] pos) (tCallS sp (WE W) t) := by
  obtain ⟨f, fd, hm, hk, hb, F⟩ := C.ex
  exact pe_callS F hr hg hm hk hb (fun σ => passAt tk σ) ha hdb he hpl
end
/-! ### slots -/
section
variable {K : PySem.W.Frag} {σ : L2.St} {H H' : Hp} {ta tb te tx tl to : TE} {t u : TT} {d : PyData}
theorem s_whenD {b : Bool} {D : Ends} {tu tz : TS} (h : EvT t σ H b) (h1 : b = true → ∀ H1, Ex H H1 → tu { D with nx := tz D } σ H1) (h2 : b = false → ∀ H1, Ex H H1 → tz D σ H1) : tSeq (tIfS t tu tNext) tz D σ H := q_when h h1 h2
end
end Pd
namespace Pd
open PySem PySem.Spec PyProof.Rows L2 Evl
section
variable {X : Cx}
theorem pe_gl {x : Str} {v : V} {pos : Pos} (hg : Gl X x) (hm : ∃ u, X.mg x = some u ∧ RelV v u) (hd : (x == ("__debug__" : Str)) = false := by decide) : PE X (.Name x pos) (tC v) := by
  obtain ⟨u, h1, h2⟩ := hm
  exact pe_glob hg h1 h2 hd
end
end Pd
namespace Pd
open L2
theorem kt_NoneType_str : kitB "NoneType" "str" = some false := by decide +kernel
theorem kt_NoneType_tuple : kitB "NoneType" "tuple" = some false := by decide +kernel
theorem kt_NoneType_int : kitB "NoneType" "int" = some false := by decide +kernel
theorem kt_NoneType_bool : kitB "NoneType" "bool" = some false := by decide +kernel
theorem kt_NoneType_list : kitB "NoneType" "list" = some false := by decide +kernel
theorem kt_NoneType_dict : kitB "NoneType" "dict" = some false := by decide +kernel
theorem kt_bool_str : kitB "bool" "str" = some false := by decide +kernel
theorem kt_bool_tuple : kitB "bool" "tuple" = some false := by decide +kernel
theorem kt_bool_int : kitB "bool" "int" = some true := by decide +kernel
theorem kt_bool_bool : kitB "bool" "bool" = some true := by decide +kernel
theorem kt_bool_list : kitB "bool" "list" = some false := by decide +kernel
theorem kt_bool_dict : kitB "bool" "dict" = some false := by decide +kernel
theorem kt_int_str : kitB "int" "str" = some false := by decide +kernel
theorem kt_int_tuple : kitB "int" "tuple" = some false := by decide +kernel
theorem kt_int_int : kitB "int" "int" = some true := by decide +kernel
theorem kt_int_bool : kitB "int" "bool" = some false := by decide +kernel
theorem kt_int_list : kitB "int" "list" = some false := by decide +kernel
theorem kt_int_dict : kitB "int" "dict" = some false := by decide +kernel
theorem kt_str_str : kitB "str" "str" = some true := by decide +kernel
theorem kt_str_tuple : kitB "str" "tuple" = some false := by decide +kernel
theorem kt_str_int : kitB "str" "int" = some false := by decide +kernel
theorem kt_str_bool : kitB "str" "bool" = some false := by decide +kernel
theorem kt_str_list : kitB "str" "list" = some false := by decide +kernel
theorem kt_str_dict : kitB "str" "dict" = some false := by decide +kernel
theorem kt_list_str : kitB "list" "str" = some false := by decide +kernel
theorem kt_list_tuple : kitB "list" "tuple" = some false := by decide +kernel
theorem kt_list_int : kitB "list" "int" = some false := by decide +kernel
theorem kt_list_bool : kitB "list" "bool" = some false := by decide +kernel
theorem kt_list_list : kitB "list" "list" = some true := by decide +kernel
theorem kt_list_dict : kitB "list" "dict" = some false := by decide +kernel
theorem kt_tuple_str : kitB "tuple" "str" = some false := by decide +kernel
theorem kt_tuple_tuple : kitB "tuple" "tuple" = some true := by decide +kernel
theorem kt_tuple_int : kitB "tuple" "int" = some false := by decide +kernel
theorem kt_tuple_bool : kitB "tuple" "bool" = some false := by decide +kernel
theorem kt_tuple_list : kitB "tuple" "list" = some false := by decide +kernel
theorem kt_tuple_dict : kitB "tuple" "dict" = some false := by decide +kernel
theorem kt_dict_str : kitB "dict" "str" = some false := by decide +kernel
theorem kt_dict_tuple : kitB "dict" "tuple" = some false := by decide +kernel
theorem kt_dict_int : kitB "dict" "int" = some false := by decide +kernel
theorem kt_dict_bool : kitB "dict" "bool" = some false := by decide +kernel
theorem kt_dict_list : kitB "dict" "list" = some false := by decide +kernel
theorem kt_dict_dict : kitB "dict" "dict" = some true := by decide +kernel
end Pd
namespace Pd
open PySem PySem.Spec PyProof.Rows L2 Evl
/-! ### the rules with the written part K named -/
section
variable {X : Cx} {K : PySem.W.Frag} (hK : X.K = K)
include hK
theorem k_in_seq : OpR X (compareOp .In) (rIn K false) := by subst hK; exact op_in_seq
theorem k_notIn_seq : OpR X (compareOp .NotIn) (rIn K true) := by subst hK; exact op_notIn_seq
theorem k_eqD (hu : X.A.units + 64 < cLine) : OpR X (compareOp .Eq) (rEqD K) := by subst hK; exact op_eqD hu
theorem k_neD (hu : X.A.units + 64 < cLine) : OpR X (compareOp .NotEq) (rNeD K) := by subst hK; exact op_neD hu
theorem k_catA : OpR X (binaryOp .Add) (rCatA K) := by subst hK; exact op_catA
theorem k_isi : CallR X (.builtin "isinstance") (rIsi K) := by subst hK; exact call_isi
theorem k_len_seq : CallR X (.builtin "len") (rLenS K) := by subst hK; exact call_len_seq
theorem k_all (hc : X.calm = true) : CallR X (.builtin "all") (rAll K) := by subst hK; exact cr_all hc
theorem k_any (hc : X.calm = true) : CallR X (.builtin "any") (rAny K) := by subst hK; exact cr_any hc
theorem k_tuple_of : CallR X (.type "tuple") (rTupOf K) := by subst hK; exact call_tuple_of
theorem k_list_of : CallR X (.type "list") (rLstOf K) := by subst hK; exact call_list_of
theorem k_sortedS : CallR X (.builtin "sorted") (rSortedS K) := by subst hK; exact cr_sortedS
theorem k_ix_list : IxR X (rIxL K) := by subst hK; exact ix_list
theorem k_ix_tup : IxR X (rIxT K) := by subst hK; exact ix_tup
theorem k_sl_list : SlR X (rSlL K) := by subst hK; exact sl_list
theorem k_sl_tupA : SlR X (rSlA K) := by subst hK; exact sl_tupA
theorem k_pi_list {tg l : Expr} {tl : TE} (hl : PE X l tl) : PI X tg l (iList K tl) := by subst hK; exact pi_list hl
theorem k_pi_tup {tg l : Expr} {tl : TE} (hl : PE X l tl) : PI X tg l (iTup K tl) := by subst hK; exact pi_tup hl
theorem k_pi_zipA {e e2 : Expr} {ta : TA} {p pos tpos : Pos} {elts : List Expr} {kk : Nat} (hg : Gl X "zip") (hm : X.mg "zip" = none) (ha : PA X [e, e2] ta)
    (hs : starEach [e, e2] X.env = (false, eval e X.env) :: starEach [e2] X.env := by rfl) (hpl : (backTo pos (starEach [e2] X.env)).any (·.1) = false := by rfl) :
    PI X (.Tuple elts kk tpos) (.Call (.Name "zip" p) [e, e2] [] pos) (RZ.iZipA K ta) := by subst hK; exact RZ.pi_zipA hg hm ha hs hpl
theorem k_pi_enum {e : Expr} {ta : TA} {p pos tpos : Pos} {elts : List Expr} {kk : Nat} (hg : Gl X "enumerate") (hm : X.mg "enumerate" = none) (ha : PA X [e] ta) (hs : starEach [e] X.env = [(false, eval e X.env)] := by rfl) :
    PI X (.Tuple elts kk tpos) (.Call (.Name "enumerate" p) [e] [] pos) (iEnum K ta) := by subst hK; exact pi_enum hg hm ha hs
theorem k_pg_tup {es : List Expr} {k : Nat} {pos : Pos} {t : TGs} {n : Nat} (hc : X.calm = true) (h : PGs X es t) (hn : (assignEach es X.env).length = n := by rfl) (hst : (assignEach es X.env).findIdx? (·.1) = none := by rfl) : PG X (.Tuple es k pos) (gTup K n t) := by subst hK; exact pg_tup hc h hn hst
theorem k_join {o e : Expr} {to te : TE} {apos pos : Pos} (ho : PE X o to) (he : PE X e te) (hs : starEach [e] X.env = [(false, eval e X.env)] := by rfl) (hbase : attributeBase o "join" X.env (eval o X.env) = eval o X.env := by rfl) (hline : (apos.endLine == pos.line) = true := by rfl) :
    PE X (.Call (.Attribute o "join" apos) [e] [] pos) (tM1 (rJoin K) to te) := by subst hK; exact pe_join ho he hs hbase hline
theorem k_append {o e : Expr} {es : List Expr} {to : TE} {t : TA} {apos cpos : Pos} (ho : PE X o to) (ha : PA X (e :: es) t)
    (hbase : attributeBase o "append" X.env (eval o X.env) = eval o X.env := by rfl)
    (hfew : ((backTo cpos (starEach (e :: es) X.env)).all (fun x => !x.1) && (backToKw cpos (keywordEach [] X.env)).all (fun x => x.1.isSome)
      && decide ((e :: es).length + ([] : List Keyword).length + (if ([] : List Keyword).isEmpty then 0 else 1) < 30)) = true := by rfl)
    (hline : (apos.endLine == cpos.line) = true := by rfl)
    (hs : starEach (e :: es) X.env = (false, eval e X.env) :: starEach es X.env := by rfl) (hpl : (backTo cpos (starEach es X.env)).any (·.1) = false := by rfl) :
    PE X (.Call (.Attribute o "append" apos) (e :: es) [] cpos) (tBM K "list" rAppend to t) := by subst hK; exact pe_bm PySem.F.plainAttrs_list PySem.F.slot_list_append PySem.F.type_list_append mt_append ho ha hbase hfew hline hs hpl
theorem k_pop {o e : Expr} {es : List Expr} {to : TE} {t : TA} {apos cpos : Pos} (ho : PE X o to) (ha : PA X (e :: es) t)
    (hbase : attributeBase o "pop" X.env (eval o X.env) = eval o X.env := by rfl)
    (hfew : ((backTo cpos (starEach (e :: es) X.env)).all (fun x => !x.1) && (backToKw cpos (keywordEach [] X.env)).all (fun x => x.1.isSome)
      && decide ((e :: es).length + ([] : List Keyword).length + (if ([] : List Keyword).isEmpty then 0 else 1) < 30)) = true := by rfl)
    (hline : (apos.endLine == cpos.line) = true := by rfl)
    (hs : starEach (e :: es) X.env = (false, eval e X.env) :: starEach es X.env := by rfl) (hpl : (backTo cpos (starEach es X.env)).any (·.1) = false := by rfl) :
    PE X (.Call (.Attribute o "pop" apos) (e :: es) [] cpos) (tBM K "list" rPopAt to t) := by subst hK; exact pe_bm PySem.F.plainAttrs_list PySem.F.slot_list_pop PySem.F.type_list_pop mt_popAt ho ha hbase hfew hline hs hpl
end
end Pd
set_option Elab.async false
set_option linter.all false
set_option maxRecDepth 100000
set_option maxHeartbeats 2000000
/-! Xc: own exceptions. -/
namespace Pd
open PySem PySem.Spec PyProof.Rows L2 Evl
/-- an own class over ValueError (perhaps through others) without own __init__ -/
structure XCls (K : PySem.W.Frag) (mg : Str → Option Value) (x : Str) (C : Addr) : Prop where
  g : mg x = some (.ref C)
  x : PySem.W.excIn K C [.type "ValueError", .type "Exception", .type "BaseException", .type "object"] "ValueError.__new__" = true
  keep : PySem.W.keepIn K (.ref C) = true
  sub : PySem.W.subIn K (.ref C) (.type "BaseException") = some true
  ty : PySem.W.typeIn K (.ref C) = some (.type "type")
  is : PySem.W.isClsIn K C = true
  self : PySem.W.subIn K (.ref C) (.ref C) = some true
/-- an own class over ValueError with an __init__ that stores one field f -/
structure XFld (K : PySem.W.Frag) (mg : Str → Option Value) (x f : Str) (C : Addr) : Prop where
  g : mg x = some (.ref C)
  o : OexC K C
  xf : XfC K C
  nf : PySem.W.findIn K (.ref C) f = some none
  is : PySem.W.isClsIn K C = true
  self : PySem.W.subIn K (.ref C) (.ref C) = some true
theorem exm_self {K : PySem.W.Frag} {S : Addr} (h1 : PySem.W.subIn K (.ref S) (.type "BaseException") = some true) (h2 : PySem.W.isClsIn K S = true) (h3 : PySem.W.typeIn K (.ref S) = some (.type "type")) (h4 : PySem.W.subIn K (.ref S) (.ref S) = some true) :
    PySem.W.exmOne K (.ref S) (.ref S) = some true := by
  have e1 : (PySem.W.subIn K (.ref S) (.type "BaseException") == some true) = true := by rw [h1] <;> rfl
  have e2 : ((PySem.W.clsIn K S).isSome && PySem.W.typeIn K (.ref S) == some (.type "type")) = true := by
    have h2' : (PySem.W.clsIn K S).isSome = true := h2
    rw [h2', h3] <;> rfl
  show (if (PySem.W.subIn K (.ref S) (.type "BaseException") == some true) = true then (if ((PySem.W.clsIn K S).isSome && PySem.W.typeIn K (.ref S) == some (.type "type")) = true then PySem.W.subIn K (.ref S) (.ref S) else none) else none) = some true
  rw [if_pos e1, if_pos e2]
  exact h4
theorem XCls.exm {K : PySem.W.Frag} {mg : Str → Option Value} {x : Str} {C : Addr} (T : XCls K mg x C) : PySem.W.exmOne K (.ref C) (.ref C) = some true := exm_self T.sub T.is T.ty T.self
theorem XFld.exm {K : PySem.W.Frag} {mg : Str → Option Value} {x f : Str} {C : Addr} (T : XFld K mg x f C) : PySem.W.exmOne K (.ref C) (.ref C) = some true := exm_self T.o.exC T.is T.o.tyC T.self
section
variable {X : Cx} {x f : Str} {C : Addr} {p pos : Pos} {e : Expr} {ta : TA}
/-- C() -/
theorem pmk_x (T : XCls X.K X.mg x C) (hg : Gl X x) (hdb : (x == ("__debug__" : Str)) = false := by decide) : PMk X (.Call (.Name x p) [] [] pos) (fun _ H Q => Q (.ref C) none H) := by
  intro pins s σ H Q I h
  refine wpAny_Call_Name_kw (ld_glob I hg T.g ?_ hdb)
  refine PySem.W.callWith_K0 I.kIn T.keep ?_
  show wpAny _ _ (call (.ref C) []) _ _ _
  obtain ⟨bm, N, nm, qn, bs, hdct, sn, sub, ab, col, dd, k0, k1, k2, k3, k5, mN, hC, hN, hni, TT⟩ := exc_obj I.kIn T.x
  exact wpAny_call_exc_subT PySem.F.excBase_ValueError TT hC hN hni (fun h' e hm => mk_of I hm (raises_own T.sub T.ty) h (I.hok.gone hm.new)) (Nat.zero_le _)
/-- C(e, ..) without own __init__ -/
theorem pmk_xa {es : List Expr} (T : XCls X.K X.mg x C) (hg : Gl X x) (ha : PA X (e :: es) ta) (hdb : (x == ("__debug__" : Str)) = false := by decide)
    (he : starEach (e :: es) X.env = (false, eval e X.env) :: starEach es X.env := by rfl) (hpl : (backTo pos (starEach es X.env)).any (·.1) = false := by rfl) :
    PMk X (.Call (.Name x p) (e :: es) [] pos) (fun σ H Q => ta σ H fun vs H1 => vs.length ≤ sizeLine ∧ Q (.ref C) none H1) :=
  pmk_ownA PySem.F.excBase_ValueError T.x T.g T.keep (raises_own T.sub T.ty) hg ha hdb he hpl
/-- the promise of an __init__ that stores its one argument: self.f = v -/
def sp_fld (C : Addr) (f : Str) : Sp := fun vs H Q _ => ∃ (a : Addr) (v : V), vs = [.ref a, v] ∧ H a = some (exo a C none) ∧
  ∀ dx, H dx = none → dx ≠ a → Q .non (upd (upd H dx (exd dx [(f, v)])) a (exo a C (some dx)))
/-- C(e): the exception's own dict holds the field -/
theorem pmk_f {k : Nat} {fI : Addr} {fd : FuncData} (T : XFld X.K X.mg x f C) (iC : PySem.W.findIn X.K (.ref C) "__init__" = some (some (.ref fI))) (tI : PySem.W.typeIn X.K (.ref fI) = some (.type "function"))
    (F1 : FnOk X.prog X.w X.K X.mg X.base CX0 k fI fd ["self", f] (sp_fld C f)) (hb : Binds X.K fd ["self", f] []) (hr : Room (k + 1) X.A) (hg : Gl X x) (ha : PA X [e] ta) (hdb : (x == ("__debug__" : Str)) = false := by decide)
    (he : starEach [e] X.env = (false, eval e X.env) :: starEach [] X.env := by rfl) (hpl : (backTo pos (starEach [] X.env)).any (·.1) = false := by rfl) :
    PMk X (.Call (.Name x p) [e] [] pos) (tMkO C (sp_fld C f) [] ta) := pmk_oex T.o iC tI F1 hr hb .nil pass0 hg T.g ha hdb he hpl
theorem mk_f {σ : L2.St} {H : Hp} {d : PyData} {Q : XK} (h : EvDs ta σ H [d]) (k : ∀ v dd H2, Ex H H2 → Im H2 v d → H2 dd = some (.xd [(f, v)]) → Q (.ref C) (some dd) H2) : tMkO C (sp_fld C f) [] ta σ H Q := by
  refine h H (Ex.refl H) _ fun vs H1 e1 iv => ?_
  obtain ⟨v, rfl, i1⟩ := iv.one
  refine ⟨by show 1 ≤ 1000; omega, fun a ha => ⟨a, v, rfl, upd_same, fun dx hdx hne => ⟨rfl, dx, [(f, v)], upd_same, by rw [upd_ne hne, upd_same], ?_, ?_⟩⟩⟩
  · rw [upd_ne hne] at hdx; exact hdx
  · have hd1 : H1 dx = none := by rw [upd_ne hne] at hdx; exact hdx
    have e2 : Ex H1 (upd (del (upd (upd (upd H1 a (exo a C none)) dx (exd dx [(f, v)])) a (exo a C (some dx))) a) dx (.xd [(f, v)])) := fun b o hb => by
      have h1 : b ≠ a := fun z => by rw [z, ha] at hb; cases hb
      have h2 : b ≠ dx := fun z => by rw [z, hd1] at hb; cases hb
      rw [upd_ne h2, del_ne h1, upd_ne h1, upd_ne h2, upd_ne h1]
      exact hb
    exact k v dx _ (e1.trans e2) (i1.mono e2) upd_same
end
end Pd
set_option Elab.async false
set_option linter.all false
set_option maxRecDepth 100000
set_option maxHeartbeats 2000000
/-! Dr: dict(a tuple of pairs), tuple(d.items()), list.count of texts. -/
namespace Pd
open PySem PySem.Spec PyProof.Rows L2 Evl
section
variable {X : Cx} {es : List Expr} {t : TA} {pos : Pos}
/-- a tuple, a list of written items: its object is known to have no dict -/
def tTupF (t : TA) : TE := fun σ H Q => t σ H fun xs H1 => xs.length ≤ sizeLine ∧ ∀ p o, H1 p = none → o.dict = none → Q (.ref p) (upd H1 p (.frz o (.tup xs)))
theorem pe_tupF {x1} (h : PA X es t) : PE X (.Tuple es x1 pos) (tTupF t) := by
  refine ⟨fun pins s σ H Q I hq => ?_⟩
  refine wpAny_Tuple_spliced (thn (h.run pos pins s σ H _ I hq) fun us s1 ⟨xs, H1, I1, r, z, q⟩ => ⟨by rw [← r.length]; exact z, ?_⟩)
  have hf : H1 s1.heap.objs.size = none := I1.hok.fresh (Nat.le_refl _)
  refine ⟨.ref s1.heap.objs.size, upd H1 s1.heap.objs.size (.frz { cls := .type "tuple", data := .seq us.toArray } (.tup xs)), I1.laid (t' := s1.toks) (fun b u e => Heap.get?_push_of_some _ e) (Nat.le_refl _) ?_, rfl, q _ _ hf rfl⟩
  exact ⟨Heap.get?_push_size _ rfl, z, us, r, ⟨_, Heap.get?_push_size _ rfl, rfl, _, rfl⟩⟩
/-- t + u: a new one has no dict -/
def rCatF (K : PySem.W.Frag) : R2 := fun x y H Q => ∃ a b xs ys, x = .ref a ∧ y = .ref b ∧ SqT K H a xs ∧ SqT K H b ys ∧ xs.length + ys.length ≤ sizeLine ∧
  (xs = [] → Q (.ref b) H) ∧ (xs ≠ [] → ys = [] → Q (.ref a) H) ∧ (xs ≠ [] → ys ≠ [] → ∀ p o, H p = none → o.dict = none → Q (.ref p) (upd H p (.frz o (.tup (xs ++ ys)))))
theorem k_catF {K : PySem.W.Frag} (hK : X.K = K) : OpR X (binaryOp .Add) (rCatF K) := by
  subst hK
  intro pins s σ H x y v u Q I rx ry h
  obtain ⟨a, b, xs, ys, rfl, rfl, ha, hb, hz, q0, q1, q2⟩ := h
  cases rx
  cases ry
  obtain ⟨its, r1, p1, _⟩ := I.tuple ha
  obtain ⟨its2, r2, p2, _⟩ := I.tuple hb
  by_cases hx : xs = []
  · subst hx
    cases r1
    exact cat_tup0 p1 p2 ⟨.ref b, H, I, rfl, q0 rfl⟩
  · have hi : its ≠ [] := fun z => hx (r1.nil_iff.mp z)
    refine HT.cat_tup p1 p2 hi (fun z => ⟨.ref a, H, I, rfl, q1 hx (r2.nil_iff.mp z)⟩) (fun z => ?_) (by rw [← r1.length, ← r2.length]; exact hz)
    have hy : ys ≠ [] := fun e => z (r2.nil_iff.mpr e)
    refine ⟨.ref s.heap.objs.size, upd H s.heap.objs.size (.frz { cls := .type "tuple", data := .seq (its ++ its2).toArray } (.tup (xs ++ ys))), I.laid (t' := s.toks) (fun b u e => Heap.get?_push_of_some _ e) (Nat.le_refl _) ?_, rfl, q2 hx hy _ _ (I.hok.fresh (Nat.le_refl _)) rfl⟩
    exact ⟨Heap.get?_push_size _ rfl, by rw [List.length_append]; exact hz, its ++ its2, r1.append r2, ⟨_, Heap.get?_push_size _ rfl, rfl, _, rfl⟩⟩
theorem pairs_of2 {pins : List (Addr × Obj)} {σ : L2.St} {H : Hp} {s : Shared} (I : Inv X pins σ H s) : ∀ {ps : List Addr} {kvs : List (Key × V)}, Paired (fun p kv => SqT X.K H p [kV kv.1, kv.2]) ps kvs →
    ∃ (prs : List (Key × Value)) (pvs : List (Value × Value)), KV kvs prs ∧ prs.length = ps.length ∧ pvs.length = ps.length ∧ ∀ (j : Nat) (q : Value × Value), pvs[j]? = some q → ∃ (b : Addr) (k : Key), ps[j]? = some b ∧ IsTup s.heap b #[q.1, q.2] ∧ prs[j]? = some (k, q.2) ∧ keyIs k q.1 = true
  | _, _, .nil => ⟨[], [], .nil, rfl, rfl, fun j q e => by simp at e⟩
  | _, _, .cons (a := p) (b := kv) h t => by
    obtain ⟨prs, pvs, r, hl, hl2, hp⟩ := pairs_of2 I t
    obtain ⟨its, rv, ht, _⟩ := I.tuple h
    obtain ⟨u, y, ei, ru, ry⟩ := vals2 rv
    subst ei
    refine ⟨(kv.1, y) :: prs, (u, y) :: pvs, .cons ⟨rfl, ry⟩ r, by rw [List.length_cons, List.length_cons, hl], by rw [List.length_cons, List.length_cons, hl2], fun j q e => ?_⟩
    cases j with
    | zero =>
      have e' : (u, y) = q := Option.some.inj e
      subst e'
      exact ⟨p, kv.1, rfl, ht, rfl, kV_is (P := X.prog) (w := X.w) ru⟩
    | succ j =>
      obtain ⟨b, k, e1, e2, e3, e4⟩ := hp j q (by simpa using e)
      exact ⟨b, k, by simpa using e1, e2, by simpa using e3, e4⟩
/-- dict(t) of a tuple of pairs (key, value) -/
def rDictF (K : PySem.W.Frag) : List V → Hp → VK → Prop := fun xs H Q => ∃ (a : Addr) (o : Obj) (ps : List Addr) (kvs : List (Key × V)), xs = [.ref a] ∧ H a = some (.frz o (.tup (ps.map V.ref))) ∧ o.dict = none ∧ Paired (fun p kv => SqT K H p [kV kv.1, kv.2]) ps kvs ∧
    ∀ p, H p = none → Q (.ref p) (upd H p (.dK (mergeK [] kvs)))
theorem k_dictF {K : PySem.W.Frag} (hK : X.K = K) (hcalm : X.calm = true) : CallR X (.type "dict") (rDictF K) := by
  subst hK
  intro pins s σ H xs us Q I r q
  obtain ⟨a, o, ps, kvs, ex, hq, hod, hp, q⟩ := q
  subst ex
  obtain ⟨u, eu, rx⟩ := vals1 r
  subst eu
  cases rx
  obtain ⟨ho, hz, its, rv, ⟨o2, ho2, hc, n, hd⟩⟩ := I.hok a _ hq
  rw [ho] at ho2
  cases ho2
  have ei := refs_at rv
  subst ei
  rw [List.length_map] at hz
  obtain ⟨prs, pvs, rel, hl, hl2, hpr⟩ := pairs_of2 I hp
  refine PySem.call_dict_pairs (knd := mixKind X.prog X.w) (kvs := prs) (PairArg.tuple a (ps.map Value.ref).toArray (fun j => ps.getD j 0) pvs) (I.ok.hd hcalm) ⟨⟨o, n, ho, hc, hod, hd⟩, by simp [hl2], fun j k v e => ?_⟩ ⟨by rw [hl, hl2], fun i key v e => ?_⟩ (by rw [hl2]; exact hz) fun h' tk hd' k => ?_
  · obtain ⟨b, kk, e1, e2, e3, e4⟩ := hpr j (k, v) e
    have eb : ps.getD j 0 = b := by simp [List.getD, e1]
    show _ ∧ _
    dsimp only
    rw [eb]
    exact ⟨by simp [e1], .inl e2⟩
  · obtain ⟨b, kk, e1, e2, e3, e4⟩ := hpr i (key, v) e
    exact ⟨kk, e3, e4⟩
  · have hm : (s.heap.objs.size == sysModules) = false := beq_eq_false_iff_ne.mpr (Nat.ne_of_gt I.big)
    have hlen : (mergeK [] kvs).length ≤ sizeLine := by
      refine Nat.le_trans (length_mergeK kvs []) ?_
      rw [List.length_nil, Nat.zero_add, rel.length, hl]
      exact hz
    exact ⟨.ref s.heap.objs.size, upd H s.heap.objs.size (.dK (mergeK [] kvs)), I.laid (t' := tk) (fun b o e => k b o (by simp) e) (Nat.le_refl _) (show ObjOk X.prog X.w _ _ _ (.dK (mergeK [] kvs)) from ⟨hlen, hm, merged [] prs, KV.merge rel .nil, hd'⟩), rfl, q _ (I.hok.fresh (Nat.le_refl _))⟩
/-- xs.count(t) of a list of texts -/
def rCntS (K : PySem.W.Frag) : V → List V → Hp → VK → Prop := fun x xs H Q => ∃ (p : Addr) (ns : List Str) (k : Str), x = .ref p ∧ xs = [.str k] ∧ SqL K H p (ns.map V.str) ∧ Q (.int (ns.countP fun n => decide (n = k) : Nat)) H
theorem countP_eqU {x : V} : ∀ {xs : List V} {us : List Value}, Vals xs us → xs.all flatV = true → us.countP (eqU x) = xs.countP fun y => eqV y x
  | _, _, .nil, _ => rfl
  | y :: xs, u :: us, .cons r t, f => by
    rw [List.all_cons, Bool.and_eq_true] at f
    rw [List.countP_cons, List.countP_cons, eqU_of r f.1, countP_eqU t f.2]
theorem mt_lcountS : MtR X "list.count" (rCntS X.K) := by
  intro pins s σ H x xs v us Q I rx rxs h
  obtain ⟨p, ns, k, rfl, rfl, hs, q⟩ := h
  cases rx
  obtain ⟨u, rfl, ru⟩ := rxs.one
  obtain ⟨its, rv, ⟨⟨cls, dd, data, sl⟩, n, ho, hc, hdn, hd⟩, hlen⟩ := I.list hs
  simp only at hc hd
  subst hc hd
  refine call_meets PySem.F.slot_list_count ⟨_, ho, rfl⟩ PySem.F.entry_list_count (PySem.F.args_list_count_2 _ _)
    (SeqAt.list_countAt p its.toArray n dd sl u (eqU (.str k))) ⟨ho, fun y hy => mem_eqAt ru rfl rv (flat_strs ns) y (by simpa using hy), ?_⟩
  have ec : its.toArray.toList.countP (eqU (.str k)) = ns.countP fun n => decide (n = k) := by
    show its.countP (eqU (.str k)) = _
    rw [countP_eqU rv (flat_strs ns), List.countP_map]
    refine List.countP_congr fun a _ => ?_
    show (eqV (V.str a) (.str k) = true) ↔ _
    simp [eqV]
  refine ⟨.int (ns.countP (fun n => decide (n = k)) : Nat), H, I.tok _, ⟨s.toks, ?_⟩, q⟩
  show Value.int ((its.toArray.toList.countP (eqU (.str k)) : Nat) : Int) s.toks = Value.int ((ns.countP (fun n => decide (n = k)) : Nat) : Int) s.toks
  rw [ec]
end
end Pd
set_option Elab.async false
set_option linter.all false
set_option maxRecDepth 100000
set_option maxHeartbeats 2000000
/-! Dr2: tuple(d.items()). -/
namespace Pd
open PySem PySem.Spec PyProof.Rows L2 Evl LiI
open AutoSeq1 (wpAny_loadPart')
section
variable {prog : Program} {w : World}
theorem tuple_new_items (r d : Addr) (o : Obj) (knd : PySem.KeyKind prog w Key) (kvs : List (Key × Value)) (ep : Nat) (hc : o.cls = .type "dict_items") :
    MeetsIn prog w (Builtin.«tuple.__new__» ⟨[.type "tuple", .ref r], []⟩) (fun A R s => A.handled = none ∧ s.heap.get? r = some o ∧ s.heap.IsItemsView r d ∧ s.heap.DictAt knd d kvs ep ∧ kvs.length ≤ sizeLine ∧
      ∀ (h' : Heap) (tk : Nat) (as : List Addr), (∀ b o, s.heap.get? b = some o → h'.get? b = some o) → as.length = kvs.length → PySem.W.KdxG knd kvs s.heap.objs.size h' as →
        R (.ok (.ret (.ref h'.objs.size))) { s with heap := h'.push { cls := .type "tuple", data := .seq (as.map Value.ref).toArray }, toks := tk }) :=
  .of_wp fun A R s h => by
    obtain ⟨hp, g, dd, tk, os⟩ := s
    obtain ⟨hh, ht, hv, hm, hn, h⟩ := h
    have hsub := sub_tuple_self
    have hinit := init_tuple_lookup
    have hmh := madeHere_tuple
    have hT : Shared.TypeIs ⟨hp, g, dd, tk, os⟩ (.ref r) "dict_items" := ⟨o, ht, hc⟩
    have col : ∀ {Q : List Value → Shared → Prop} {E : Value → Shared → Prop}, (∀ (h' : Heap) (tk : Nat) (as : List Addr), (∀ b o, hp.get? b = some o → h'.get? b = some o) → as.length = kvs.length → PySem.W.KdxG knd kvs hp.objs.size h' as → Q (as.map Value.ref) ⟨h', g, dd, tk, os⟩) → wpAny (model prog w) A.in1 (collect (.ref r)) Q E ⟨hp, g, dd, tk, os⟩ := fun q => PySem.W.kdx_collect (s := ⟨hp, g, dd, tk, os⟩) hh hv hm hn q
    obtain ⟨o2, ho2, hc2, hd2⟩ := hv
    rw [ht] at ho2
    cases ho2
    wp_walk using wpAny_loadPart' ht, wpAny_typeOf hT, col
    intro h' tk' as hk hl hG
    have hz : as.length ≤ sizeLine := by rw [hl]; exact hn
    show wpAny _ _ (Builtin.Tuple.tupleExact (as.map Value.ref).toArray >>= fun v => ret v) _ _ _
    unfold Builtin.Tuple.tupleExact
    refine wpAny_bind (wpAny_newObj_type ?_ (by show (as.map Value.ref).toArray.size ≤ sizeLine; simpa using hz))
    refine wpAny_pure ⟨_, rfl, ?_⟩
    exact h h' tk' as hk hl hG
end
/-- tuple(d.items()): the address of the tuple is the last -/
def rItemsT : V → Hp → VK → Prop := fun x H Q => ∃ (d : Addr) (kvs : List (Key × V)), x = .ref d ∧ kvs ≠ [] ∧ H d = some (.dK kvs) ∧
  ∀ (H' : Hp) (p : Addr) (ts : List Addr), (∀ b o, H b = some o → H' b = some o) → H p = none → H' p = some (.tup (ts.map V.ref)) → Paired (fun (t : Addr) (q : Key × V) => H' t = some (.tup [kV q.1, q.2])) ts kvs → Q (.ref p) H'
def tTupItems (te : TE) : TE := fun σ H Q => te σ H fun x H1 => rItemsT x H1 Q
section
variable {X : Cx} {e : Expr} {te : TE} {p apos cpos pos : Pos}
theorem items_laidT {pins : List (Addr × Obj)} {σ : L2.St} {H : Hp} {s : Shared} {h' : Heap} {tk : Nat} {kvs : List (Key × V)} {vs : List (Key × Value)} {as : List Addr} (I : Inv X pins σ H s) (hne : kvs ≠ []) (hz : kvs.length ≤ sizeLine) (kv : KV kvs vs)
    (hk : ∀ b o, s.heap.get? b = some o → h'.get? b = some o) (hl : as.length = vs.length) (hG : PySem.W.KdxG (mixKind X.prog X.w) vs s.heap.objs.size h' as) :
    ∃ H' : Hp, (∀ b o, H b = some o → H' b = some o) ∧ H h'.objs.size = none ∧ H' h'.objs.size = some (.tup (as.map V.ref)) ∧ Paired (fun (t : Addr) (q : Key × V) => H' t = some (.tup [kV q.1, q.2])) as kvs ∧ Inv X pins σ H' { s with heap := h'.push { cls := .type "tuple", data := .seq (as.map Value.ref).toArray }, toks := tk } := by
  have lk : kvs.length = vs.length := Paired.length kv
  have hsz : s.heap.objs.size ≤ h'.objs.size := by
    cases as with
    | nil => exact absurd (List.length_eq_zero_iff.mp (lk.trans hl.symm)) hne
    | cons a as => exact Nat.le_of_lt (Nat.lt_trans (hG.above a (List.mem_cons_self ..)) (hG.there (List.mem_cons_self ..)))
  have hSn : h'.objs.size ∉ as := fun z => Nat.lt_irrefl _ (hG.there z)
  have nd : as.Nodup := List.Pairwise.imp (fun {a b} (h : a < b) => Nat.ne_of_lt h) hG.rise
  have new : ∀ t ∈ as, H t = none := fun t ht => I.hok.fresh (Nat.le_of_lt (hG.above t ht))
  have newS : H h'.objs.size = none := I.hok.fresh hsz
  have atP := putT_at as kvs (upd H h'.objs.size (.tup (as.map V.ref))) (by omega) nd
  have off : ∀ b, b ∉ as → b ≠ h'.objs.size → putT (upd H h'.objs.size (.tup (as.map V.ref))) as kvs b = H b := fun b h1 h2 => by rw [putT_off as kvs _ h1, upd_ne h2]
  have low : ∀ b o, s.heap.get? b = some o → b ∉ as ∧ b ≠ h'.objs.size := fun b o e => ⟨fun z => absurd (Heap.lt_size e) (Nat.not_lt.mpr (Nat.le_of_lt (hG.above b z))), Nat.ne_of_lt (Heap.lt_size (hk b o e))⟩
  have kp : ∀ b u, H b = some u → (putT (upd H h'.objs.size (.tup (as.map V.ref))) as kvs) b = some u := fun b u e => by
    rw [off b (fun z => by rw [new b z] at e; cases e) (fun z => by rw [z, newS] at e; cases e)]
    exact e
  have eS : putT (upd H h'.objs.size (.tup (as.map V.ref))) as kvs h'.objs.size = some (.tup (as.map V.ref)) := by rw [putT_off as kvs _ hSn, upd_same]
  have hk2 : ∀ b o, s.heap.get? b = some o → (h'.push { cls := .type "tuple", data := .seq (as.map Value.ref).toArray }).get? b = some o := fun b o q => Heap.get?_push_of_some _ (hk b o q)
  refine ⟨putT (upd H h'.objs.size (.tup (as.map V.ref))) as kvs, kp, newS, eS, atP, ?_⟩
  refine I.call' (ch := []) rfl ⟨fun b o q _ _ _ => hk2 b o q, fun b o q _ _ _ => ⟨o.slots, hk2 b o q⟩, fun b o q n _ => ?_, fun b o q _ => ⟨o, hk2 b o q⟩, fun b xs q => kp b _ q, fun b o u q => kp b _ q, fun b ps q => ⟨#[], by rw [kp b _ q]; simp⟩⟩ (fun b u q => ?_) I.bare fun b z => by simp at z
  · obtain ⟨z1, z2⟩ := low b o q
    rw [off b z1 z2]
    exact n
  · by_cases hb : b ∈ as
    · obtain ⟨j, pk, e1, e2, e3⟩ := paired_ix atP hb
      rw [e3] at q
      cases q
      obtain ⟨key, k, x, f1, f2, f3⟩ := hG.pairs j b e1
      obtain ⟨qv, g1, g2, g3⟩ := L2.paired_get kv e2
      rw [f1] at g1
      cases g1
      have rk : RelV (kV pk.1) key := by
        rw [g2]
        exact relV_key (show keyIs k key = true from f2)
      exact ⟨by show 2 ≤ sizeLine; decide, [key, x], .cons rk (.cons g3 .nil), ⟨_, Heap.get?_push_of_some _ f3, rfl, _, rfl⟩⟩
    · by_cases hb2 : b = h'.objs.size
      · rw [hb2] at q ⊢
        rw [eS] at q
        cases q
        exact ⟨by rw [List.length_map]; omega, as.map Value.ref, vals_refs as, ⟨_, Heap.get?_push_size _ rfl, rfl, _, rfl⟩⟩
      · rw [off b hb hb2] at q
        exact (I.hok b u q).stay (fun d v _ y => hk2 d v y) (fun d y => kp d _ y) fun d xs y => kp d _ y
/-- tuple(e.items()) -/
theorem pe_tupItems (hc : X.calm = true) (he : PE X e te) (hg : Gl X "tuple") (hm : X.mg "tuple" = none) (hv : bootBuiltins "tuple" = some (.type "tuple")) (hbase : attributeBase e "items" X.env (eval e X.env) = eval e X.env := by rfl) (hline : (apos.endLine == cpos.line) = true := by rfl)
    (hs : starEach [.Call (.Attribute e "items" apos) [] [] cpos] X.env = (false, eval (.Call (.Attribute e "items" apos) [] [] cpos) X.env) :: starEach [] X.env := by rfl) :
    PE X (.Call (.Name "tuple" p) [.Call (.Attribute e "items" apos) [] [] cpos] [] pos) (tTupItems te) := by
  refine ⟨fun pins s σ H Q I hq => ?_⟩
  refine wpAny_Call_Name_kw (ld_blt I hg hm hv ?_)
  refine PyProof.Rows.callWith_type1 ?_ hs rfl
  rw [hs]
  show wpAny _ _ (spliced ((false, eval (.Call (.Attribute e "items" apos) [] [] cpos) X.env) :: backTo pos (starEach [] X.env))) _ _ s
  refine Calls.spliced_cons ?_
  refine wpAny_Call_method (T := "dict") (id := "dict.items") hbase rfl hline F.plainAttrs_dict F.slot_dict_items F.type_dict_items (thn (he.run pins s σ H _ I hq) fun u s1 ⟨x, H1, I1, rx, d, kvs, ex, hne, hd, q⟩ => ?_)
  subst ex
  obtain rfl : u = Value.ref d := rx
  obtain ⟨hz, hs0, vs, kv, hdo⟩ := I1.hok d _ hd
  obtain ⟨ep, hat⟩ := hdo.dictAt
  have lk : kvs.length = vs.length := Paired.length kv
  have I2 : Inv X pins σ H1 { s1 with heap := s1.heap.push { cls := .type "dict_items", data := .fields #[.ref d] } } := I1.kept (t' := s1.toks) fun b ob q => Heap.get?_push_of_some _ q
  refine ⟨hdo.typeIs, hdo.mapOf.noDict, ?_⟩
  show wpAny _ _ (callWith cpos (.builtin "dict.items") [.ref d] [] []) _ X.xe s1
  refine method_meetsIn F.slot_dict_items F.entry_dict_items rfl (PySem.evalArgs_none ⟨rfl, hdo.typeIs, F.args_dict_items_1 _, _, meets_dict_items (mixKind X.prog X.w) d hs0, ⟨vs, hdo⟩, ?_⟩)
  refine Calls.spliced_nil ?_
  have hgv : (s1.heap.push { cls := .type "dict_items", data := .fields #[.ref d] }).get? s1.heap.objs.size = some { cls := .type "dict_items", data := .fields #[.ref d] } := Heap.get?_push_size _ rfl
  refine callType_newIn F.called_tuple (by decide) (F.typeCall_tuple_1 _) (F.newCall_tuple_1 _) (fun obj => F.args_object_init_2 obj _) F.entry_tuple_new
    (tuple_new_items s1.heap.objs.size d _ (mixKind X.prog X.w) vs ep rfl) ⟨I.ok.hd hc, hgv, ⟨_, hgv, rfl, rfl⟩, hat.push _, by omega, fun h' tk as hk hl hG => ?_⟩
  obtain ⟨H', k1, k2, k3, k4, J⟩ := items_laidT (tk := tk) I2 hne hz kv hk hl hG
  exact ⟨⟨_, Heap.get?_push_size _ rfl, rfl⟩, .ref _, H', J, rfl, q H' _ as k1 k2 k3 k4⟩
end
end Pd
set_option Elab.async false
set_option linter.all false
set_option maxRecDepth 100000
set_option maxHeartbeats 2000000
/-! Dd: dict(tuple), its items, count, and answers that are known only by what holds of them. -/
namespace Pd
open PySem PyProof.Rows L2 Evl
def EvF (te : TE) (σ : L2.St) (H : Hp) (ds : List PyData) : Prop := ∀ H1, Ex H H1 → ∀ Q : VK, (∀ p o xs H2, Ex H1 H2 → H2 p = some (.frz o (.tup xs)) → o.dict = none → Ims H2 xs ds → Q (.ref p) H2) → te σ H1 Q
/-- some data of which P holds -/
def EvP (te : TE) (σ : L2.St) (H : Hp) (P : PyData → Prop) : Prop := ∀ H1, Ex H H1 → ∀ Q : VK, (∀ v d H2, Ex H1 H2 → P d → Im H2 v d → Q v H2) → te σ H1 Q
def EvNP (te : TE) (σ : L2.St) (H : Hp) (P : List PyData → Prop) : Prop := ∀ H1, Ex H H1 → ∀ Q : VK, (∀ p xs ds H2, H1 p = none → Ex H1 H2 → P ds → H2 p = some (.lst xs) → Ims H2 xs ds → Q (.ref p) H2) → te σ H1 Q
/-- a test that may go either way, what holds then being P -/
def EvX (tt : TT) (σ : L2.St) (H : Hp) (P : Bool → Prop) : Prop := ∀ H1, Ex H H1 → ∀ Q : Bool → Hp → Prop, (∀ b H2, Ex H1 H2 → P b → Q b H2) → tt σ H1 Q
section
variable {K : PySem.W.Frag} {σ : L2.St} {H H' : Hp} {ta tb te tx tl to : TE} {t u : TT} {x y z v : V} {d d' e' : PyData} {ds es : List PyData}
theorem EvF.is {es : List PyData} (h : EvF te σ H ds) (e : ds = es) : EvF te σ H es := e ▸ h
theorem ef_tup {ta : TA} (h : EvDs ta σ H ds) (hl : ds.length ≤ 100000) : EvF (tTupF ta) σ H ds := fun H1 e _ q =>
  h H1 e _ fun vs H2 e2 i2 => ⟨sz_of (by rw [i2.length]; exact hl), fun p o hp ho => q p o vs _ (e2.trans (Ex.new hp)) upd_same ho (i2.mono (Ex.new hp))⟩
theorem ef_cat1 (ha : EvD ta σ H (.tuple ds)) (hb : EvF tb σ H es) (he : es ≠ []) (hz : ds.length + es.length ≤ 100000) : EvF (tOp (rCatF K) ta tb) σ H (ds ++ es) := fun H1 e Q q =>
  ha H1 e _ fun x H2 e2 ix => hb H2 (e.trans e2) _ fun p' o xs' H3 e3 g1' ho g2' => by
    obtain ⟨p, xs, rfl, g1, g2⟩ := (ix.mono e3).t
    have hne : xs' ≠ [] := fun z => by subst z; cases g2'; exact he rfl
    refine ⟨p, p', xs, xs', rfl, rfl, SqT.of g1, .inl (.inr ⟨o, g1'⟩), sz_of (by rw [g2.length, g2'.length]; exact hz), fun z => ?_, fun _ z => absurd z hne, fun _ _ r o' hr ho' => ?_⟩
    · subst z; cases g2; exact q p' o xs' H3 (e2.trans e3) g1' ho g2'
    · exact q r o' _ _ ((e2.trans e3).trans (Ex.new hr)) upd_same ho' ((g2.append g2').mono (Ex.new hr))
theorem ef_cat2 (ha : EvF ta σ H ds) (hb : EvD tb σ H (.tuple es)) (hd : ds ≠ []) (hz : ds.length + es.length ≤ 100000) : EvF (tOp (rCatF K) ta tb) σ H (ds ++ es) := fun H1 e Q q =>
  ha H1 e _ fun p o xs H2 e2 g1 ho g2 => hb H2 (e.trans e2) _ fun y H3 e3 iy => by
    obtain ⟨p', xs', rfl, g1', g2'⟩ := iy.t
    have g1 := e3 _ _ g1
    have g2 := g2.mono e3
    have hne : xs ≠ [] := fun z => by subst z; cases g2; exact hd rfl
    refine ⟨p, p', xs, xs', rfl, rfl, .inl (.inr ⟨o, g1⟩), SqT.of g1', sz_of (by rw [g2.length, g2'.length]; exact hz), fun z => absurd z hne, fun _ z => ?_, fun _ _ r o' hr ho' => ?_⟩
    · subst z; cases g2'; rw [List.append_nil] at q; exact q p o xs H3 (e2.trans e3) g1 ho g2
    · exact q r o' _ _ ((e2.trans e3).trans (Ex.new hr)) upd_same ho' ((g2.append g2').mono (Ex.new hr))
/-- the pairs of texts and data -/
theorem pairs_at {α : Type} {e2 : α → PyData} {n : α → Str} : ∀ {l : List α} {xs : List V}, Ims H xs (l.map fun a => .tuple [.str (n a), e2 a]) →
    ∃ (ps : List Addr) (kvs : List (Key × V)), xs = ps.map V.ref ∧ Paired (fun p kv => SqT K H p [kV kv.1, kv.2]) ps kvs ∧ kvs.length = l.length ∧ ∀ q ∈ kvs, ∃ a ∈ l, q.1 = .inr (n a) ∧ Im H q.2 (e2 a)
  | [], _, h => by cases h; exact ⟨[], [], rfl, .nil, rfl, fun q hq => by cases hq⟩
  | a :: l, _, h => by
    cases h with
    | cons h1 h2 =>
      obtain ⟨ps, kvs, rfl, hp, hl, hm⟩ := pairs_at h2
      obtain ⟨p, ys, rfl, g1, g2⟩ := h1.t
      obtain ⟨u, v, rfl, iu, iv⟩ := g2.two
      rw [iu.s] at g1
      refine ⟨p :: ps, (.inr (n a), v) :: kvs, rfl, .cons (SqT.of g1) hp, by rw [List.length_cons, List.length_cons, hl], fun q hq => ?_⟩
      rcases List.mem_cons.mp hq with rfl | hq
      · exact ⟨a, List.mem_cons_self .., rfl, iv⟩
      · obtain ⟨b, hb, r⟩ := hm q hq
        exact ⟨b, List.mem_cons_of_mem _ hb, r⟩
theorem mem_putK {kvs : List (Key × V)} {k : Key} {v : V} {q : Key × V} (h : q ∈ putK kvs k v) : q ∈ kvs ∨ q = (k, v) := by
  unfold putK at h
  split at h
  · obtain ⟨r, hr, e⟩ := List.mem_map.mp h
    by_cases c : r.1 = k
    · rw [if_pos c] at e; right; rw [← e, c]
    · rw [if_neg c] at e; left; rw [← e]; exact hr
  · rcases List.mem_append.mp h with h | h
    · exact .inl h
    · exact .inr (by simpa using h)
theorem mem_mergeK : ∀ {more kvs : List (Key × V)} {q : Key × V}, q ∈ mergeK kvs more → q ∈ kvs ∨ q ∈ more
  | [], _, _, h => .inl h
  | p :: more, kvs, q, h => by
    have h' : q ∈ mergeK (putK kvs p.1 p.2) more := h
    rcases mem_mergeK h' with h | h
    · rcases mem_putK h with h | h
      · exact .inl h
      · exact .inr (by rw [h]; exact List.mem_cons_self ..)
    · exact .inr (List.mem_cons_of_mem _ h)
theorem putK_ne {kvs : List (Key × V)} {k : Key} {v : V} : putK kvs k v ≠ [] := by
  unfold putK
  split
  · rename_i c
    intro z
    cases kvs with
    | nil => simp at c
    | cons a l => simp at z
  · simp
theorem mergeK_ne : ∀ {more kvs : List (Key × V)}, kvs ≠ [] → mergeK kvs more ≠ []
  | [], _, h => h
  | p :: more, kvs, h => by
    show mergeK (putK kvs p.1 p.2) more ≠ []
    exact mergeK_ne putK_ne
/-- tuple(dict(t).items()): rows that are rows of t -/
theorem ep_dictItems {α : Type} {e2 : α → PyData} {n : α → Str} {l : List α} (h : EvF te σ H (l.map fun a => .tuple [.str (n a), e2 a])) (hl : l ≠ []) :
    EvP (tTupItems (tCB (rDictF K) (tCons te tNil))) σ H fun d => ∃ l' : List α, l'.length ≤ l.length ∧ (∀ a ∈ l', ∃ b ∈ l, n a = n b ∧ a = b) ∧ d = .tuple (l'.map fun a => .tuple [.str (n a), e2 a]) := fun H1 e Q q => by
  refine h H1 e _ fun p o xs H2 e2' g1 ho g2 => ?_
  obtain ⟨ps, kvs, rfl, hp, hkl, hm⟩ := pairs_at (K := K) g2
  refine ⟨p, o, ps, kvs, rfl, g1, ho, hp, fun r hr => ?_⟩
  have hk : kvs ≠ [] := fun z => by
    subst z
    exact hl (List.length_eq_zero_iff.mp hkl.symm)
  refine ⟨r, mergeK [] kvs, rfl, ?_, upd_same, fun H' p' ts ex hn ht hpr => ?_⟩
  · cases kvs with
    | nil => exact absurd rfl hk
    | cons a kvs =>
      show mergeK (putK [] a.1 a.2) kvs ≠ []
      exact mergeK_ne putK_ne
  · have e3 : Ex H2 H' := fun a u ha => ex a u ((Ex.new hr) a u ha)
    have key : ∀ (ms : List (Key × V)) (ts : List Addr), (∀ q ∈ ms, q ∈ kvs) → Paired (fun (t : Addr) (q : Key × V) => H' t = some (.tup [kV q.1, q.2])) ts ms →
        ∃ l' : List α, l'.length = ms.length ∧ (∀ a ∈ l', a ∈ l) ∧ Ims H' (ts.map V.ref) (l'.map fun a => .tuple [.str (n a), e2 a]) := by
      intro ms
      induction ms with
      | nil => intro ts _ hq; cases hq; exact ⟨[], rfl, fun a ha => (by cases ha), .nil⟩
      | cons q ms ih =>
        intro ts hin hq
        cases hq with
        | cons hq1 hq2 =>
          obtain ⟨l', h1, h2, h3⟩ := ih _ (fun q hq => hin q (List.mem_cons_of_mem _ hq)) hq2
          obtain ⟨a, ha, e1, ia⟩ := hm q (hin q (List.mem_cons_self ..))
          rw [e1] at hq1
          refine ⟨a :: l', by rw [List.length_cons, List.length_cons, h1], fun b hb => ?_, .cons (.tup hq1 (.cons (.str _) (.cons (ia.mono e3) .nil))) h3⟩
          rcases List.mem_cons.mp hb with rfl | hb
          · exact ha
          · exact h2 b hb
    obtain ⟨l', h1, h2, h3⟩ := key _ _ (fun q hq => (mem_mergeK hq).resolve_left (by simp)) hpr
    refine q _ _ H' (e2'.trans e3) ⟨l', ?_, fun a ha => ⟨a, h2 a ha, rfl, rfl⟩, rfl⟩ (.tup ht h3)
    rw [h1, ← hkl]
    have := length_mergeK kvs []
    simpa using this
theorem ed_cnt {ss : List Str} {k : Str} (h : EvD to σ H (.list (ss.map .str))) (h2 : EvD te σ H (.str k)) : EvD (tBM K "list" (rCntS K) to (tCons te tNil)) σ H (.int (ss.countP fun n => decide (n = k) : Nat)) := fun H1 e Q q =>
  h H1 e _ fun v H2 e2 iv => by
    obtain ⟨p, xs, rfl, g1, g2⟩ := iv.l
    have ex := g2.strs
    subst ex
    refine ⟨Or.inl ⟨rfl, _, SqL.of g1⟩, h2 H2 (e.trans e2) _ fun w H3 e3 iw => ⟨p, ss, k, rfl, by rw [iw.s], SqL.of (e3 _ _ g1), q _ H3 (e2.trans e3) (.int _)⟩⟩
theorem enp_sorted {ss : List Str} (h : EvD te σ H (.list (ss.map .str))) (h64 : ss.length < 64) : EvNP (tCB (rSortedS K) (tCons te tNil)) σ H fun ds => ∃ ys : List Str, ds = ys.map .str ∧ ys.Perm ss ∧ sortedS ys = true := fun H1 e Q q =>
  h H1 e _ fun v H2 e2 iv => by
    obtain ⟨p, xs, rfl, g1, g2⟩ := iv.l
    have ex := g2.strs
    subst ex
    exact ⟨p, ss, rfl, SqL.of g1, h64, fun ys r hp hs hr => q r _ _ _ (fresh_back e2 hr) (e2.trans (Ex.new hr)) ⟨ys, rfl, hp, hs⟩ upd_same (Ims.ofStrs ys)⟩
variable {P P' : PyData → Prop}
theorem ep_callQ {R : List PyData → PyData → Prop} {E : XK} {ta : TA} {PA : List PyData → Prop} (h : ∀ H1, Ex H H1 → ∀ Q : List V → Hp → Prop, (∀ vs ds H2, Ex H1 H2 → PA ds → Ims H2 vs ds → Q vs H2) → ta σ H1 Q) (hd : ∀ ds, PA ds → ∃ d, R ds d ∧ P d) : EvP (tCall (SpQ R) [] E ta) σ H P := fun H1 e Q q =>
  h H1 e _ fun vs ds H2 e2 pa i2 => by
    obtain ⟨d, r, p⟩ := hd ds pa
    exact ⟨ds, d, by rw [List.append_nil]; exact i2, r, fun v H3 e3 i3 => q v d H3 (e2.trans e3) p i3⟩
theorem ea_one (h : EvP te σ H P) : ∀ H1, Ex H H1 → ∀ Q : List V → Hp → Prop, (∀ vs ds H2, Ex H1 H2 → (∃ d, ds = [d] ∧ P d) → Ims H2 vs ds → Q vs H2) → tCons te tNil σ H1 Q := fun H1 e Q q =>
  h H1 e _ fun v d H2 e2 p iv => q _ _ H2 e2 ⟨d, rfl, p⟩ (.cons iv .nil)
theorem EvD.p (h : EvD te σ H d) (hp : P d) : EvP te σ H P := fun H1 e Q q => h H1 e Q fun v H2 e2 iv => q v d H2 e2 hp iv
theorem EvP.w (h : EvP te σ H P) (hp : ∀ d, P d → P' d) : EvP te σ H P' := fun H1 e Q q => h H1 e Q fun v d H2 e2 p iv => q v d H2 e2 (hp d p) iv
theorem ex_B {PB : Bool → Prop} (h : EvP te σ H fun d => ∃ b, d = .bool b ∧ PB b) : EvX (tB te) σ H PB := fun H1 e Q q => h H1 e _ fun v d H2 e2 ⟨b, ed, p⟩ iv => by
  subst ed
  exact ⟨b, iv.b, q b H2 e2 p⟩
theorem ex_T {PB : Bool → Prop} (h : EvP te σ H fun d => ∃ b, d = .bool b ∧ PB b) : EvX (tTest te) σ H PB := fun H1 e Q q => h H1 e _ fun v d H2 e2 ⟨b, ed, p⟩ iv => by
  subst ed
  exact ⟨b, iv.b, q b H2 e2 p⟩
theorem EvT.ex {b : Bool} {PB : Bool → Prop} (h : EvT t σ H b) (hp : PB b) : EvX t σ H PB := fun H1 e Q q => h H1 e Q fun H2 e2 => q b H2 e2 hp
theorem ex_or {PA PB PC : Bool → Prop} (h1 : EvX t σ H PA) (h2 : PA false → EvX u σ H PB) (ht : PA true → PC true) (hf : ∀ b, PA false → PB b → PC b) : EvX (tOr t u) σ H PC := fun H1 e Q q => h1 H1 e _ fun b H2 e2 p => by
  cases b with
  | true =>
    show Q true H2
    exact q true H2 e2 (ht p)
  | false =>
    show u σ H2 Q
    exact h2 p H2 (e.trans e2) Q fun b H3 e3 p3 => q b H3 (e2.trans e3) (hf b p p3)
theorem ex_and {PA PB PC : Bool → Prop} (h1 : EvX t σ H PA) (h2 : PA true → EvX u σ H PB) (hf : PA false → PC false) (ht : ∀ b, PA true → PB b → PC b) : EvX (tAnd t u) σ H PC := fun H1 e Q q => h1 H1 e _ fun b H2 e2 p => by
  cases b with
  | false =>
    show Q false H2
    exact q false H2 e2 (hf p)
  | true =>
    show u σ H2 Q
    exact h2 p H2 (e.trans e2) Q fun b H3 e3 p3 => q b H3 (e2.trans e3) (ht b p p3)
theorem ex_not {PA : Bool → Prop} (h1 : EvX t σ H PA) : EvX (tNot t) σ H (fun b => PA (!b)) := fun H1 e _ q => h1 H1 e _ fun b H2 e2 p => q (!b) H2 e2 (by show PA (!(!b)); rw [Bool.not_not]; exact p)
theorem mk_fP {ta : TA} {C : Addr} {f : Str} {Q : XK} (h : ∀ H1, Ex H H1 → ∀ Q : List V → Hp → Prop, (∀ vs ds H2, Ex H1 H2 → (∃ d, ds = [d] ∧ P d) → Ims H2 vs ds → Q vs H2) → ta σ H1 Q) (k : ∀ v d dd H2, Ex H H2 → P d → Im H2 v d → H2 dd = some (.xd [(f, v)]) → Q (.ref C) (some dd) H2) : tMkO C (sp_fld C f) [] ta σ H Q := by
  refine h H (Ex.refl H) _ fun vs ds H1 e1 ⟨d, ed, p⟩ iv => ?_
  subst ed
  obtain ⟨v, rfl, i1⟩ := iv.one
  exact mk_f (σ := []) (d := d) (ta := tCons (tC v) tNil) (H := H1) (ea1 (ed_c i1) ea0) (fun v' dd H2 e2 iv' hdd => k v' d dd H2 (e1.trans e2) p iv' hdd)
variable {D : Ends} {tu tz : TS}
theorem q_whenX {PB : Bool → Prop} (h : EvX t σ H PB) (h1 : PB true → ∀ H1, Ex H H1 → tu { D with nx := tz D } σ H1) (h2 : PB false → ∀ H1, Ex H H1 → tz D σ H1) : tSeq (tIfS t tu tNext) tz D σ H := h H (Ex.refl H) _ fun b H1 e p => by
  cases b with
  | true =>
    show tu _ σ H1
    exact h1 p H1 e
  | false =>
    show tz D σ H1
    exact h2 p H1 e
theorem s_whenX {PB : Bool → Prop} (h : EvX t σ H PB) (h1 : PB true → ∀ H1, Ex H H1 → tu D σ H1) (h2 : PB false → ∀ H1, Ex H H1 → D.nx σ H1) : tIfS t tu tNext D σ H := h H (Ex.refl H) _ fun b H1 e p => by
  cases b with
  | true =>
    show tu _ σ H1
    exact h1 p H1 e
  | false =>
    show D.nx σ H1
    exact h2 p H1 e
theorem q_asgP {i : Nat} (h : EvP te σ H P) (k : ∀ v d H1, Ex H H1 → P d → Im H1 v d → tz D (σ.set i (some v)) H1) : tSeq (tAsg te (gName i)) tz D σ H := h H (Ex.refl H) _ fun v d H1 e p iv => k v d H1 e p iv
theorem q_asgNP {i : Nat} {PL : List PyData → Prop} (h : EvNP te σ H PL) (k : ∀ p xs ds H1, H p = none → Ex H H1 → PL ds → H1 p = some (.lst xs) → Ims H1 xs ds → tz D (σ.set i (some (.ref p))) H1) : tSeq (tAsg te (gName i)) tz D σ H := h H (Ex.refl H) _ fun p xs ds H1 n e pl a b => k p xs ds H1 n e pl a b
theorem EvNP.toP {PL : List PyData → Prop} (h : EvNP te σ H PL) : EvP te σ H fun d => ∃ ds, d = .list ds ∧ PL ds := fun H1 e Q q => h H1 e Q fun p xs ds H2 n e2 pl a b => q _ _ H2 e2 ⟨ds, rfl, pl⟩ (.lst a b)
end
end Pd
set_option Elab.async false
set_option linter.all false
set_option maxRecDepth 100000
set_option maxHeartbeats 2000000
/-! Dt: ints, lists that change, the tape. -/
namespace Pd
open PySem PyProof.Rows L2 Evl
section
variable {K : PySem.W.Frag} {σ : L2.St} {H H' : Hp} {ta tb te tx tl to : TE} {t u : TT} {x y z v : V} {d d' e' : PyData} {ds es : List PyData}
abbrev rInt1 : List V → Hp → VK → Prop := fun xs H Q => (∃ i, xs = [.int i] ∧ Q (.int i) H) ∨ ∃ k, xs = [.bl k] ∧ Q (.int (if k then 1 else 0)) H
theorem ed_int1 {i : Int} (h : EvD te σ H (.int i)) : EvD (tCB rInt1 (tCons te tNil)) σ H (.int i) :=
  ed_cb (ea1 h ea0) fun vs H1 e iv Q q => by
    obtain ⟨v, rfl, i1⟩ := iv.one
    rw [i1.i]
    exact .inl ⟨i, rfl, q _ H1 (Ex.refl H1) (.int _)⟩
abbrev rAbs : List V → Hp → VK → Prop := fun xs H Q => ∃ i, xs = [.int i] ∧ Q (.int (if i < 0 then -i else i)) H
theorem ed_abs {i : Int} (h : EvD te σ H (.int i)) : EvD (tCB rAbs (tCons te tNil)) σ H (.int (if i < 0 then -i else i)) :=
  ed_cb (ea1 h ea0) fun vs H1 e iv Q q => by
    obtain ⟨v, rfl, i1⟩ := iv.one
    rw [i1.i]
    exact ⟨i, rfl, q _ H1 (Ex.refl H1) (.int _)⟩
theorem Ims.ofInts : ∀ ss : List Int, Ims H (ss.map V.int) (ss.map PyData.int)
  | [] => .nil
  | s :: ss => .cons (.int s) (Ims.ofInts ss)
theorem Ims.ints : ∀ {ss : List Int} {vs : List V}, Ims H vs (ss.map PyData.int) → vs = ss.map V.int
  | [], _, h => by cases h; rfl
  | s :: ss, _, h => by cases h with | cons h1 h2 => rw [h1.i, Ims.ints h2]; rfl
/-- over a list that is read: of the script, too -/
theorem wk_sq {a : Addr} {xs : List V} (h : Ev tl σ H (.ref a)) (hx : SqL K H a xs) (g2 : Ims H xs ds) : Wk (iList K tl) σ H ds := fun H1 e R r =>
  h H1 e _ fun H2 e2 => by
    have hx := ex_l (e.trans e2) hx
    have g2 := g2.mono (e.trans e2)
    refine ⟨a, rfl, ⟨xs, hx⟩, r _ H2 (fun H => SqL K H a xs) (YAt xs) e2 (by rw [← g2.length]; exact walk_list) (fun H3 e3 => ex_l e3 hx) fun i H3 x H4 e3 yy => ?_⟩
    obtain ⟨rfl, hx⟩ := yy
    obtain ⟨d, hd, im⟩ := (g2.mono e3).get hx
    exact ⟨Ex.refl _, d, hd, im⟩
theorem Wk.m {wi : TI} {src : List PyData} (h : Wk wi σ H src) : WkM [] wi σ H src := fun H1 e R r => h H1 e R fun J H2 G Y e2 W hG hY => r J H2 G Y e2 W (fun H3 e3 => hG H3 e3.ex) fun i H3 x H4 e3 yy => hY i H3 x H4 e3.ex yy
theorem WkM.wk {wi : TI} {src : List PyData} (h : WkM [] wi σ H src) : Wk wi σ H src := fun H1 e R r => h H1 e R fun J H2 G Y e2 W hG hY => r J H2 G Y e2 W (fun H3 e3 => hG H3 (ExM.of e3)) fun i H3 x H4 e3 yy => hY i H3 x H4 (ExM.of e3) yy
/-! ### frames -/
theorem ExM.mut {M : List Addr} {p : Addr} {o : HO} (e : ExM M H H') (h : H p = none) : ExM M H (L2.upd H' p o) :=
  ⟨fun a u n ha => by rw [upd_ne (fun z => by rw [z, h] at ha; cases ha)]; exact e.1 a u n ha, fun a xs ha => by rw [upd_ne (fun z => by rw [z, h] at ha; cases ha)]; exact e.2 a xs ha⟩
theorem ExM.fresh {M : List Addr} {p : Addr} (e : ExM M H H') (hM : p ∉ M) (h : H' p = none) : H p = none := by
  cases c : H p with
  | none => rfl
  | some o => rw [e.1 p o hM c] at h; cases h
/-- the tape: a list at t of the list of numbers at c, and the seed -/
structure Tape (t c : Addr) (H : Hp) : Prop where
  ne : t ≠ c
  at_t : ∃ s : Int, H t = some (.lst [.ref c, .int s]) ∧ 0 ≤ s ∧ s ≤ 2147483647
  at_c : ∃ ns : List Int, H c = some (.lst (ns.map V.int)) ∧ ns.length ≤ 63 ∧ ∀ n ∈ ns, 0 ≤ n
theorem Tape.ex {t c : Addr} (T : Tape t c H) (e : Ex H H') : Tape t c H' := by
  obtain ⟨ne, ⟨s, h1, h2⟩, ⟨ns, h3, h4⟩⟩ := T
  exact ⟨ne, ⟨s, e _ _ h1, h2⟩, ⟨ns, e _ _ h3, h4⟩⟩
theorem Tape.upd {t c p : Addr} {o : HO} (T : Tape t c H) (h1 : p ≠ t) (h2 : p ≠ c) : Tape t c (L2.upd H p o) := by
  obtain ⟨ne, ⟨s, g1, g2⟩, ⟨ns, g3, g4⟩⟩ := T
  exact ⟨ne, ⟨s, by rw [upd_ne (fun z => h1 z.symm)]; exact g1, g2⟩, ⟨ns, by rw [upd_ne (fun z => h2 z.symm)]; exact g3, g4⟩⟩
theorem Tape.some_t {t c : Addr} (T : Tape t c H) : H t ≠ none := by
  obtain ⟨_, ⟨s, h1, _⟩, _⟩ := T
  rw [h1]; simp
theorem Tape.some_c {t c : Addr} (T : Tape t c H) : H c ≠ none := by
  obtain ⟨_, _, ⟨s, h1, _⟩⟩ := T
  rw [h1]; simp
theorem Tape.notin {t c p : Addr} (T : Tape t c H) (h : H p = none) : p ∉ [t, c] := fun z => by
  rcases List.mem_cons.mp z with rfl | z
  · exact T.some_t h
  · rcases List.mem_cons.mp z with rfl | z
    · exact T.some_c h
    · cases z
/-- later: what is not the tape stays, the tape stays one -/
def Go (t c : Addr) (H H' : Hp) : Prop := ExM [t, c] H H' ∧ Tape t c H'
theorem Go.trans {t c : Addr} {H1 : Hp} (a : Go t c H H1) (b : Go t c H1 H') : Go t c H H' := ⟨a.1.trans b.1, b.2⟩
theorem Go.of {t c : Addr} (T : Tape t c H) (e : Ex H H') : Go t c H H' := ⟨ExM.of e, T.ex e⟩
theorem Go.ex {t c : Addr} {H1 : Hp} (a : Go t c H H1) (e : Ex H1 H') : Go t c H H' := ⟨a.1.trans (ExM.of e), a.2.ex e⟩
theorem Go.refl {t c : Addr} (T : Tape t c H) : Go t c H H := ⟨ExM.refl _ _, T⟩
theorem Go.at {t c p : Addr} {o : HO} (g : Go t c H H') (hp : p ∉ [t, c]) (h : H p = some o) : H' p = some o := g.1.1 p o hp h
theorem Go.im {t c : Addr} (g : Go t c H H') (s : still d = true) (h : Im H v d) : Im H' v d := h.tx g.1.2 s
/-- one whole number below m is drawn -/
def sp_draw : Sp := fun vs H Q _ => ∃ (t c : Addr) (m : Nat), vs = [.ref t, .int (m : Nat)] ∧ Tape t c H ∧ 1 ≤ m ∧ m ≤ 1000 ∧ ∀ r : Nat, r < m → ∀ H', Go t c H H' → Q (.int (r : Nat)) H'
def sp_tape (K : PySem.W.Frag) : Sp := fun vs H Q _ => ∃ (a : Addr) (ns : List Int), vs = [.ref a] ∧ SqL K H a (ns.map V.int) ∧ ns.length ≤ 63 ∧ ∀ t c H', Ex H H' → Tape t c H' → Q (.ref t) H'
def sp_pick : Sp := fun vs H Q _ => ∃ (t c p : Addr) (xs : List V), vs = [.ref t, .ref p] ∧ Tape t c H ∧ p ∉ [t, c] ∧ H p = some (.lst xs) ∧ xs ≠ [] ∧ xs.length ≤ 1000 ∧ ∀ (i : Nat) (x : V), xs[i]? = some x → ∀ H', Go t c H H' → Q x H'
theorem drawn {it : Nat} {t c : Addr} {m : Nat} {Q : VK} {E : XK} (ht : σ[it]? = some (some (.ref t))) (T : Tape t c H) (hm : EvD tb σ H (.int (m : Nat))) (h1 : 1 ≤ m) (h2 : m ≤ 1000) (k : ∀ r : Nat, r < m → ∀ H', Go t c H H' → Q (.int (r : Nat)) H') :
    tCall sp_draw [] E (tCons (tVar it) (tCons tb tNil)) σ H Q := (ea_cons (ev_var ht) (ea_cons hm.evI ea_nil)) H (Ex.refl H) _ fun H2 e2 =>
  ⟨t, c, m, rfl, T.ex e2, h1, h2, fun r hr H' g => k r hr H' ((Go.of T e2).trans g)⟩
theorem picked {it : Nat} {t c p : Addr} {xs : List V} {Q : VK} {E : XK} (ht : σ[it]? = some (some (.ref t))) (T : Tape t c H) (hp : Ev tb σ H (.ref p)) (hn : p ∉ [t, c]) (hx : H p = some (.lst xs)) (h1 : xs ≠ []) (h2 : xs.length ≤ 1000) (k : ∀ (i : Nat) (x : V), xs[i]? = some x → ∀ H', Go t c H H' → Q x H') :
    tCall sp_pick [] E (tCons (tVar it) (tCons tb tNil)) σ H Q := (ea_cons (ev_var ht) (ea_cons hp ea_nil)) H (Ex.refl H) _ fun H2 e2 =>
  ⟨t, c, p, xs, rfl, T.ex e2, hn, e2 _ _ hx, h1, h2, fun i x hx H' g => k i x hx H' ((Go.of T e2).trans g)⟩
variable {D : Ends}
theorem s_pop0 {l : Addr} {xs : List V} (hl : H l = some (.lst (x :: xs))) (ha : Ev ta σ H (.ref l)) (h : Ev te σ H (.int 0)) (k : ∀ H1, Ex H H1 → D.nx σ (L2.upd H1 l (.lst xs))) : tDrop (tBM K "list" rPopAt ta (tCons te tNil)) D σ H :=
  ha H (Ex.refl H) _ fun H1 e1 => ⟨Or.inl ⟨rfl, _, sq_of (e1 l _ hl)⟩, h H1 e1 _ fun H2 e2 => ⟨l, x :: xs, 0, 0, x, rfl, rfl, (e1.trans e2) l _ hl, by decide, by decide, by simp [seqIndex?], rfl, k H2 (e1.trans e2)⟩⟩
/-- one operand, then the other -/
theorem op_run {r : R2} {Q : VK} (ha : Ev ta σ H x) (k : ∀ H1, Ex H H1 → tb σ H1 fun y H2 => r x y H2 Q) : tOp r ta tb σ H Q := ha H (Ex.refl H) _ k
theorem s_retOp {r : R2} (ha : Ev ta σ H x) (k : ∀ H1, Ex H H1 → tb σ H1 fun y H2 => r x y H2 D.rt) : tRet (tOp r ta tb) D σ H := ha H (Ex.refl H) _ k
end
end Pd
set_option Elab.async false
set_option linter.all false
set_option maxRecDepth 100000
set_option maxHeartbeats 2000000
/-! Dt2: draws within expressions. -/
namespace Pd
open PySem PyProof.Rows L2 Evl
theorem Go.mut {t c p : Addr} {o : HO} {H H' : Hp} (g : Go t c H H') (T : Tape t c H) (hp : H p = none) : Go t c H (L2.upd H' p o) := by
  have n := T.notin hp
  refine ⟨g.1.mut hp, g.2.upd (fun z => n (by rw [z]; simp)) (fun z => n (by rw [z]; simp))⟩
section
variable {K : PySem.W.Frag} {σ : L2.St} {H H' : Hp} {ta tb te tx tl to : TE} {t u : TT} {x y z v : V} {d d' e' : PyData} {ds es : List PyData} {D : Ends} {tu tz : TS}
theorem sl_runN {th : TO} {Q : VK} (h : EvN te σ H ds) (k : ∀ p xs H1, H p = none → Ex H H1 → H1 p = some (.lst xs) → Ims H1 xs ds → th σ H1 fun hi H2 => rSlL K (.ref p) none hi H2 Q) : tSl (rSlL K) te tNoPart th σ H Q := h H (Ex.refl H) _ fun p xs H1 n e a b => k p xs H1 n e a b
/-- 1 + a drawn number -/
theorem one_more {t c : Addr} {m : Nat} {Q : VK} {E : XK} (ht : σ[0]? = some (some (.ref t))) (T : Tape t c H) (h1 : 1 ≤ m) (h2 : m ≤ 1000) (k : ∀ r : Nat, r < m → ∀ H', Go t c H H' → Q (.int ((1 + r : Nat) : Int)) H') :
    tOp (rI0 fun i j => .int (i + j)) (tC (.int 1)) (tCall sp_draw [] E (tCons (tVar 0) (tCons (tC (.int (m : Nat))) tNil))) σ H Q :=
  op_run ev_c fun H1 e1 => drawn ht (T.ex e1) (ed_i _) h1 h2 fun r hr H' g => ⟨1, r, rfl, rfl, by
    have := k r hr H' ((Go.of T e1).trans g)
    have e : ((1 + r : Nat) : Int) = 1 + (r : Int) := by omega
    rw [e] at this
    exact this⟩
/-- a drawn number == 0 -/
theorem draw_zero {t c : Addr} {m : Nat} {Q : Bool → Hp → Prop} {E : XK} (ht : σ[0]? = some (some (.ref t))) (T : Tape t c H) (h1 : 1 ≤ m) (h2 : m ≤ 1000) (k : ∀ (b : Bool) H', Go t c H H' → Q b H') :
    tTest (tOp rEq (tCall sp_draw [] E (tCons (tVar 0) (tCons (tC (.int (m : Nat))) tNil))) (tC (.int 0))) σ H Q :=
  drawn ht T (ed_i _) h1 h2 fun r hr H' g => ⟨rfl, decide (V.int (r : Nat) = V.int 0), rfl, k _ H' g⟩
/-- [x for x in l if a drawn number is 0] -/
theorem lc_draws {t c : Addr} {m j : Nat} {vs : List Nat} {l : List Str} {Q : VK} {E : XK} (hl : EvN tl σ H (l.map .str)) (hz : l.length ≤ 1000) (T : Tape t c H) (h1 : 1 ≤ m) (h2 : m ≤ 1000)
    (ht : ∀ x, ((wipe σ vs).set j (some x))[0]? = some (some (.ref t))) (hj : ∀ x, ((wipe σ vs).set j (some x))[j]? = some (some x)) (hw : ∀ x, wipe ((wipe σ vs).set j (some x)) vs = wipe σ vs)
    (k : ∀ p (ws : List Str) H', Go t c H H' → H p = none → ws.Sublist l → H' p = some (.lst (ws.map V.str)) → Q (.ref p) H') :
    tLc (iList K tl) (gName j) (tTest (tOp rEq (tCall sp_draw [] E (tCons (tVar 0) (tCons (tC (.int (m : Nat))) tNil))) (tC (.int 0)))) (tVar j) vs σ H Q := by
  refine hl H (Ex.refl H) _ fun p0 xs H2 n0 e2 g1 g2 => ?_
  have exs := g2.strs
  subst exs
  have T2 := T.ex e2
  have np0 : p0 ∉ [t, c] := T.notin n0
  refine ⟨p0, rfl, ⟨l.map V.str, SqL.of g1⟩, fun Dl hD => ?_⟩
  have W := walk_list (K := K) (a := p0) (xs := l.map V.str)
  refine lc_it W (fun i H' => Go t c H2 H' ∧ ∃ acc : List Str, acc.Sublist (l.take i) ∧ acc.length ≤ i ∧ H' Dl = some (.lst (acc.map V.str)))
    ⟨(Go.refl T2).mut T2 hD, [], List.nil_sublist _, Nat.le_refl _, upd_same⟩ (fun i H' _ p => SqL.of (p.1.at np0 g1)) (fun i x H3 H4 hi p y => ?_) fun H' p => ?_
  · obtain ⟨rfl, hx⟩ := y
    obtain ⟨g, acc, q1, q2, q3⟩ := p
    rw [List.getElem?_map] at hx
    obtain ⟨s, hs, rfl⟩ : ∃ s, l[i]? = some s ∧ V.str s = x := by
      cases e : l[i]? with
      | none => rw [e] at hx; cases hx
      | some r => rw [e] at hx; exact ⟨r, rfl, Option.some.inj hx⟩
    refine ⟨hw _, draw_zero (ht _) g.2 h1 h2 fun b H5 g5 => ?_⟩
    have D5 : H5 Dl = some (.lst (acc.map V.str)) := g5.at (T2.notin hD) q3
    have g25 := g.trans g5
    cases b with
    | true =>
      refine ⟨.str s, hj _, acc.map V.str, D5, ?_, g25.mut T2 hD, acc ++ [s], ?_, by rw [List.length_append]; show _ + 1 ≤ _; omega, by rw [List.map_append]; exact upd_same⟩
      · have : i < (l.map V.str).length := hi
        rw [List.length_map] at this
        exact sz_lt (by rw [List.length_map]; omega)
      · rw [take_more hs]
        exact List.Sublist.append q1 (List.Sublist.refl _)
    | false =>
      show Go t c H2 H5 ∧ _
      refine ⟨g25, acc, ?_, by omega, D5⟩
      rw [take_more hs]
      exact q1.trans (List.sublist_append_left _ _)
  · obtain ⟨g, acc, q1, q2, q3⟩ := p
    rw [List.length_map, List.take_length] at q1
    exact k Dl acc H' ((Go.of T e2).trans g) (fresh_back e2 hD) q1 q3
/-- what is walked, with all that the walk's making does -/
def Run (wi : TI) (σ : L2.St) (H : Hp) (M : List Addr) (C : List PyData → Hp → Prop) : Prop := ∀ R : It → Hp → Prop,
  (∀ J H2 G Y src, C src H2 → Walk J src.length G Y → (∀ H3, ExM M H2 H3 → G H3) → (∀ i H3 x H4, ExM M H2 H3 → Y i H3 x H4 → Ex H3 H4 ∧ ∃ d, src[i]? = some d ∧ Im H4 x d) → R J H2) → wi σ H R
theorem run_range {M : List Addr} {ta : TA} {C : List PyData → Hp → Prop} (h : ∀ Q : List V → Hp → Prop, (∀ (n : Nat) H1, n ≤ 100000 → C ((List.range n).map fun i => .int (i : Nat)) H1 → Q [.int (n : Nat)] H1) → ta σ H Q) : Run (iRng1 ta) σ H M C := fun R r => by
  refine h _ fun n H2 hn hc => ⟨(n : Int), rfl, by omega, by omega, r _ H2 (fun _ => True) (fun i H x H' => i < n ∧ H' = H ∧ x = .int (0 + (i : Int))) _ hc (by
      have : ((List.range n).map fun i => PyData.int (i : Nat)).length = (n : Int).toNat := by simp
      rw [this]
      exact ⟨fun _ _ hi _ => hi, fun _ _ => Nat.le_refl _, fun i _ _ _ hi _ y => ⟨by simpa using hi, y.1, y.2⟩⟩) (fun _ _ => trivial) fun i H3 x H4 e3 yy => ?_⟩
  obtain ⟨hi', rfl, rfl⟩ := yy
  have e0 : (0 : Int) + (i : Int) = (i : Int) := Int.zero_add _
  refine ⟨Ex.refl _, .int (i : Nat), ?_, by show Im H4 (.int ((0 : Int) + (i : Int))) _; rw [e0]; exact .int _⟩
  have hi := hi'
  simp [hi]
theorem run_of {wi : TI} {M : List Addr} {src : List PyData} (h : WkM M wi σ H src) : Run wi σ H M (fun s H1 => s = src ∧ Ex H H1) := fun R r => h H (Ex.refl H) R fun J H2 G Y e2 W hG hY => r J H2 G Y src ⟨rfl, e2⟩ W hG hY
/-- THE FOR over what is made, Pv by the turn -/
theorem s_forR {wi : TI} {g : TG} (M : List Addr) {C : List PyData → Hp → Prop} (hk : Run wi σ H M C)
    (h : ∀ src H2, C src H2 → ∃ Pv : Nat → L2.St → Hp → Prop, Pv 0 σ H2 ∧ (∀ i σ' H3 H4, Pv i σ' H3 → Ex H3 H4 → Pv i σ' H4) ∧
      (∀ i d x σ' H3 H4, src[i]? = some d → Ex H3 H4 → Im H4 x d → Pv i σ' H4 → g x σ' H4 fun σ2 H5 => tu { D with nx := fun σ3 H6 => Pv (i + 1) σ3 H6 ∧ ExM M H3 H6, ct := fun σ3 H6 => Pv (i + 1) σ3 H6 ∧ ExM M H3 H6, bk := D.nx } σ2 H5) ∧
      (∀ σ' H', Pv src.length σ' H' → D.nx σ' H')) : tFor wi g tu D σ H := by
  refine hk _ fun J H2 G Y src hc W hG hY => ?_
  obtain ⟨Pv, h0, hm, hs, hd⟩ := h src H2 hc
  refine ⟨fun i m σ' H' => m = src.length - i ∧ i ≤ src.length ∧ Pv i σ' H' ∧ ExM M H2 H', ⟨src.length, by simp, Nat.zero_le _, h0, ExM.refl M H2⟩, ?_⟩
  rintro i m σ' H3 ⟨rfl, hi, p, e3⟩
  by_cases hlt : i < src.length
  · refine .inr ⟨W.goes i H3 hlt (hG H3 e3), fun σ3 H6 => Pv (i + 1) σ3 H6 ∧ ExM M H3 H6, fun σ3 H6 q => ⟨src.length - (i + 1), by omega, rfl, hlt, q.1, e3.trans q.2⟩, fun x H4 y => ?_⟩
    obtain ⟨e34, d, hd', im⟩ := hY i H3 x H4 e3 (W.yields i H3 x H4 hlt (hG H3 e3) y)
    exact hs i d x σ' H3 H4 hd' e34 im (hm i σ' H3 H4 p e34)
  · have e : i = src.length := by omega
    subst e
    exact .inl ⟨W.stops H3 (hG H3 e3), hd σ' H3 p⟩
theorem q_forR {wi : TI} {g : TG} (M : List Addr) {C : List PyData → Hp → Prop} (hk : Run wi σ H M C)
    (h : ∀ src H2, C src H2 → ∃ Pv : Nat → L2.St → Hp → Prop, Pv 0 σ H2 ∧ (∀ i σ' H3 H4, Pv i σ' H3 → Ex H3 H4 → Pv i σ' H4) ∧
      (∀ i d x σ' H3 H4, src[i]? = some d → Ex H3 H4 → Im H4 x d → Pv i σ' H4 → g x σ' H4 fun σ2 H5 => tu { D with nx := fun σ3 H6 => Pv (i + 1) σ3 H6 ∧ ExM M H3 H6, ct := fun σ3 H6 => Pv (i + 1) σ3 H6 ∧ ExM M H3 H6, bk := tz D } σ2 H5) ∧
      (∀ σ' H', Pv src.length σ' H' → tz D σ' H')) : tSeq (tFor wi g tu) tz D σ H := s_forR (D := { D with nx := tz D }) M hk h
variable {P : PyData → Prop}
/-- xs.append(e), e known by what holds of it -/
theorem s_appP {l : Addr} {xs : List V} (hl : H l = some (.lst xs)) (ha : Ev ta σ H (.ref l)) (h : EvP te σ H P) (hs : ∀ d, P d → still d = true) (hz : xs.length < 100000) (k : ∀ v d H1, Ex H H1 → H1 l = some (.lst xs) → P d → Im (L2.upd H1 l (.lst (xs ++ [v]))) v d → D.nx σ (L2.upd H1 l (.lst (xs ++ [v])))) :
    tDrop (tBM K "list" rAppend ta (tCons te tNil)) D σ H := ha H (Ex.refl H) _ fun H1 e1 =>
  ⟨Or.inl ⟨rfl, xs, sq_of (e1 l _ hl)⟩, h H1 e1 _ fun v d H2 e2 p iv => ⟨l, xs, v, rfl, rfl, e2 l _ (e1 l _ hl), sz_lt hz, k v d H2 (e1.trans e2) (e2 l _ (e1 l _ hl)) p (iv.tx (tx_lst (e2 l _ (e1 l _ hl))) (hs d p))⟩⟩
/-- xs.append(a picked one) -/
theorem s_appPick {t c l p : Addr} {xs ys : List V} {E : XK} (hl : H l = some (.lst xs)) (ha : Ev ta σ H (.ref l)) (ht : σ[0]? = some (some (.ref t))) (T : Tape t c H) (hln : l ∉ [t, c]) (hp : Ev tb σ H (.ref p)) (hn : p ∉ [t, c]) (hx : H p = some (.lst ys)) (h1 : ys ≠ []) (h2 : ys.length ≤ 1000) (hz : xs.length < 100000)
    (k : ∀ (i : Nat) (x : V), ys[i]? = some x → ∀ H', Go t c H H' → H' l = some (.lst xs) → D.nx σ (L2.upd H' l (.lst (xs ++ [x])))) :
    tDrop (tBM K "list" rAppend ta (tCons (tCall sp_pick [] E (tCons (tVar 0) (tCons tb tNil))) tNil)) D σ H := ha H (Ex.refl H) _ fun H1 e1 =>
  ⟨Or.inl ⟨rfl, xs, sq_of (e1 l _ hl)⟩, picked ht (T.ex e1) (hp.mono e1) hn (e1 _ _ hx) h1 h2 fun i x hx H' g => ⟨l, xs, x, rfl, rfl, g.at hln (e1 _ _ hl), sz_lt hz, k i x hx H' ((Go.of T e1).trans g) (g.at hln (e1 _ _ hl))⟩⟩
theorem q_asgRun {i : Nat} (h : te σ H fun v H1 => tz D (σ.set i (some v)) H1) : tSeq (tAsg te (gName i)) tz D σ H := h
theorem part_run {Q : Option Int → Hp → Prop} (h : te σ H fun x H1 => ∃ i, x = .int i ∧ Q (some i) H1) : tPart te σ H Q := h
theorem q_or2 {tA tB : TT} {b1 : Bool} (h : EvT tA σ H b1) (h1 : b1 = true → ∀ H1, Ex H H1 → tu { D with nx := tz D } σ H1) (h2 : b1 = false → ∀ H1, Ex H H1 → tB σ H1 fun b H2 => if b = true then tu { D with nx := tz D } σ H2 else tz D σ H2) : tSeq (tIfS (tOr tA tB) tu tNext) tz D σ H := h H (Ex.refl H) _ fun H1 e => by
  cases b1 with
  | true => exact h1 rfl H1 e
  | false => exact h2 rfl H1 e
theorem cutV_to (k : Nat) (ds : List V) : cutV ds none (some (k : Int)) = ds.take k := by
  unfold cutV
  rw [HT.sIx_nat, HT.sIx_none, List.drop_zero, Nat.sub_zero]
  rcases Nat.le_total k ds.length with h | h
  · rw [Nat.min_eq_left h]
  · rw [Nat.min_eq_right h, List.take_of_length_le (Nat.le_refl _), List.take_of_length_le h]
theorem ep_tupOf {PL : List PyData → Prop} (h : EvNP te σ H PL) : EvP (tCB (rTupOf K) (tCons te tNil)) σ H (fun d => ∃ ds, d = .tuple ds ∧ PL ds) := fun H1 e Q q =>
  h H1 e _ fun p xs ds H2 n e2 pl a b => ⟨p, xs, rfl, .inl ⟨SqL.of a, fun l hl => q _ _ _ (e2.trans (Ex.new hl)) ⟨ds, rfl, pl⟩ (.tup upd_same (b.mono (Ex.new hl)))⟩⟩
end
end Pd
set_option Elab.async false
set_option linter.all false
set_option maxRecDepth 100000
set_option maxHeartbeats 2000000
/-! Dt3: what is left beside the tape. -/
namespace Pd
open PySem PyProof.Rows L2 Evl
section
variable {K : PySem.W.Frag} {σ : L2.St} {H H' : Hp} {ta tb te tx tl to : TE} {t u : TT} {x y z v : V} {d d' e' : PyData} {ds es : List PyData} {D : Ends} {tu tz : TS} {tp c : Addr}
theorem call_run {sp : Sp} {E : XK} {ta : TA} {vs : List V} {Q : VK} (h : EvA ta σ H vs) (k : ∀ H1, Ex H H1 → sp (vs ++ []) H1 Q E) : tCall sp [] E ta σ H Q := h H (Ex.refl H) _ k
/-- texts in a list, the tape drawn from meanwhile -/
def EvGL (tp c : Addr) (te : TE) (σ : L2.St) (H : Hp) (P : List Str → Prop) : Prop := ∀ Q : VK, (∀ p ls H2, Go tp c H H2 → H p = none → H2 p = some (.lst (ls.map V.str)) → P ls → Q (.ref p) H2) → te σ H Q
theorem eg_of {ls : List Str} {P : List Str → Prop} (T : Tape tp c H) (h : EvN te σ H (ls.map .str)) (hp : P ls) : EvGL tp c te σ H P := fun Q q => h H (Ex.refl H) Q fun p xs H2 n e a b => by
  have ex := b.strs
  subst ex
  exact q p ls H2 (Go.of T e) n a hp
theorem eg_cat {P P' : List Str → Prop} (ha : EvGL tp c ta σ H P) (T : Tape tp c H) (hb : ∀ H1, Go tp c H H1 → EvGL tp c tb σ H1 P') (hz : ∀ l m, P l → P' m → l.length + m.length ≤ 100000) : EvGL tp c (tOp rCat ta tb) σ H (fun x => ∃ l m, P l ∧ P' m ∧ x = l ++ m) := fun Q q =>
  ha _ fun p ls H1 g n a p1 => hb H1 g _ fun p' ms H2 g' n' a' p2 => by
    have e2 := g'.at (T.notin n) a
    refine ⟨p, p', _, _, rfl, rfl, e2, a', sz_of (by rw [List.length_map, List.length_map]; exact hz _ _ p1 p2), fun r hr => ?_⟩
    refine q r (ls ++ ms) _ ((g.trans g').ex (Ex.new hr)) ?_ (by rw [List.map_append]; exact upd_same) ⟨ls, ms, p1, p2, rfl⟩
    cases c0 : H r with
    | none => rfl
    | some o =>
      by_cases hm : r ∈ [tp, c]
      · exfalso
        have T2 := (g.trans g').2
        rcases List.mem_cons.mp hm with rfl | hm
        · exact T2.some_t hr
        · rcases List.mem_cons.mp hm with rfl | hm
          · exact T2.some_c hr
          · cases hm
      · rw [(g.trans g').at hm c0] at hr
        cases hr
theorem q_asgGL {i : Nat} {P : List Str → Prop} (h : EvGL tp c te σ H P) (k : ∀ p ls H2, Go tp c H H2 → H p = none → H2 p = some (.lst (ls.map V.str)) → P ls → tz D (σ.set i (some (.ref p))) H2) : tSeq (tAsg te (gName i)) tz D σ H := h _ k
/-- arguments of which none is the tape -/
def Off (tp c : Addr) (v : V) : Prop := v ≠ .ref tp ∧ v ≠ .ref c
def EvO1 (tp c : Addr) (te : TE) (σ : L2.St) (H : Hp) (d : PyData) : Prop := ∀ H1, Ex H H1 → ∀ Q : VK, (∀ v H2, Ex H1 H2 → Im H2 v d → Off tp c v → Q v H2) → te σ H1 Q
def EvOs (tp c : Addr) (ta : TA) (σ : L2.St) (H : Hp) (ds : List PyData) : Prop := ∀ H1, Ex H H1 → ∀ Q : List V → Hp → Prop, (∀ vs H2, Ex H1 H2 → Ims H2 vs ds → (∀ v ∈ vs, Off tp c v) → Q vs H2) → ta σ H1 Q
theorem Tape.off {p : Addr} (T : Tape tp c H) (h : H p = none) : Off tp c (.ref p) := by
  have n := T.notin h
  exact ⟨fun z => n (by cases z; simp), fun z => n (by cases z; simp)⟩
theorem eo_new (T : Tape tp c H) (h : EvN te σ H ds) : EvO1 tp c te σ H (.list ds) := fun H1 e Q q => h H1 e Q fun p xs H2 n e2 a b => q _ H2 e2 (.lst a b) ((T.ex e).off n)
theorem eo_tup (T : Tape tp c H) (h : EvD te σ H (.tuple ds)) : EvO1 tp c te σ H (.tuple ds) := fun H1 e Q q => h H1 e Q fun v H2 e2 iv => q v H2 e2 iv (by
  obtain ⟨p, xs, rfl, g1, g2⟩ := iv.t
  have T2 := T.ex (e.trans e2)
  obtain ⟨_, ⟨s, h1, _⟩, ⟨ns, h2, _⟩⟩ := T2
  exact ⟨fun z => (by cases z; rw [g1] at h1; cases h1), fun z => (by cases z; rw [g1] at h2; cases h2)⟩)
theorem eo_non : EvO1 tp c (tC .non) σ H .none := fun H1 e Q q => q _ H1 (Ex.refl H1) .non ⟨fun z => (by cases z), fun z => (by cases z)⟩
theorem EvOs.is {ta : TA} {es : List PyData} (h : EvOs tp c ta σ H ds) (e : ds = es) : EvOs tp c ta σ H es := e ▸ h
theorem eos0 : EvOs tp c tNil σ H [] := fun H1 _ _ q => q _ H1 (Ex.refl H1) .nil (fun v hv => by cases hv)
theorem eos1 {tr : TA} (h : EvO1 tp c ta σ H d) (hr : EvOs tp c tr σ H ds) : EvOs tp c (tCons ta tr) σ H (d :: ds) := fun H1 e _ q =>
  h H1 e _ fun v H2 e2 i2 o2 => hr H2 (e.trans e2) _ fun vs H3 e3 i3 o3 => q _ H3 (e2.trans e3) (.cons (i2.mono e3) i3) (fun w hw => by
    rcases List.mem_cons.mp hw with rfl | hw
    · exact o2
    · exact o3 w hw)
theorem callA {sp : Sp} {E : XK} {ta : TA} {Q : VK} (k : ta σ H fun vs H1 => sp (vs ++ []) H1 Q E) : tCall sp [] E ta σ H Q := k
theorem callSA {sp : Sp} {E : L2.St → XK} {ta : TA} {Q : VK} (k : ta σ H fun vs H1 => sp vs H1 Q (E σ)) : tCallS sp E ta σ H Q := k
theorem q_dropA (k : te σ H fun _ H1 => tz D σ H1) : tSeq (tDrop te) tz D σ H := k
theorem consA {tr : TA} {Q : List V → Hp → Prop} (k : te σ H fun v H1 => tr σ H1 fun vs H2 => Q (v :: vs) H2) : tCons te tr σ H Q := k
theorem lstA {ta : TA} {Q : VK} (k : ta σ H fun xs H1 => xs.length ≤ sizeLine ∧ ∀ p, H1 p = none → Q (.ref p) (L2.upd H1 p (.lst xs))) : tLst ta σ H Q := k
theorem var_run {i : Nat} {Q : VK} (h : σ[i]? = some (some v)) (k : Q v H) : tVar i σ H Q := ⟨v, h, k⟩
/-- one of some is picked: what it is, where -/
inductive Pk (H : Hp) : V → PyData → Prop
  | still {v : V} {d : PyData} : Pd.still d = true → Im H v d → Pk H v d
  | lst {p : Addr} {xs : List V} {ds : List PyData} : H p = some (.lst xs) → stills ds = true → Ims H xs ds → Pk H (.ref p) (.list ds)
theorem Pk.im {v : V} {d : PyData} (h : Pk H v d) : Im H v d := by
  cases h with
  | still _ h => exact h
  | lst h1 _ h2 => exact .lst h1 h2
def flat1 (d : PyData) : Bool := match d with
  | .list ds => stills ds
  | d => Pd.still d
theorem picked_of {it : Nat} {ta : TA} {Q : VK} {E : XK} (ht : σ[it]? = some (some (.ref tp))) (T : Tape tp c H) (h : EvOs tp c ta σ H ds) (h1 : ds ≠ []) (h2 : ds.length ≤ 1000) (hf : ∀ d ∈ ds, flat1 d = true) (k : ∀ v d, d ∈ ds → ∀ H', Go tp c H H' → Im H' v d → Q v H') :
    tCall sp_pick [] E (tCons (tVar it) (tCons (tLst ta) tNil)) σ H Q := by
  refine callA (consA (var_run ht (consA (lstA ?_))))
  refine h H (Ex.refl H) _ fun vs H2 e2 iv off => ⟨sz_of (by rw [iv.length]; omega), fun p hp => ?_⟩
  have T2 := T.ex e2
  have TP := T2.ex (Ex.new (o := .lst vs) hp)
  refine ⟨tp, c, p, vs, rfl, TP, T2.notin hp, upd_same, fun z => ?_, by rw [iv.length]; omega, fun i x hx H' g => ?_⟩
  · subst z
    cases iv
    exact h1 rfl
  · have iv' := iv.mono (Ex.new (o := .lst vs) hp)
    obtain ⟨d, hd, im⟩ := iv'.get hx
    have hm := List.mem_of_getElem? hd
    have ho := off x (List.mem_of_getElem? hx)
    have gg := (Go.of T (e2.trans (Ex.new (o := .lst vs) hp))).trans g
    refine k x d hm H' gg ?_
    have f := hf d hm
    cases im with
    | non => exact .non
    | bl b => exact .bl _
    | int i => exact .int _
    | str s => exact .str _
    | lst a b =>
      exact .lst (g.at (fun z => by
        rcases List.mem_cons.mp z with rfl | z
        · exact ho.1 rfl
        · rcases List.mem_cons.mp z with rfl | z
          · exact ho.2 rfl
          · cases z) a) (b.tx g.1.2 f)
    | tup a b => exact (Im.tup a b).tx g.1.2 f
end
end Pd
set_option Elab.async false
set_option linter.all false
set_option maxRecDepth 100000
set_option maxHeartbeats 2000000
/-! Mt: match of a tuple, its first item a text that tells the case. -/
namespace Pd
open PySem PySem.Spec PyProof.Rows L2 Evl
/-- the slots that the names take; none: no name -/
def setAll : L2.St → List (Option Nat) → List V → L2.St
  | σ, some i :: is, v :: vs => setAll (σ.set i (some v)) is vs
  | σ, none :: is, _ :: vs => setAll σ is vs
  | σ, _, _ => σ
abbrev TMc := List V → TS
def mEnd : TMc := fun _ D σ H => D.nx σ H
def mSeq (w : Str) (is : List (Option Nat)) (tb : TS) (tr : TMc) : TMc := fun xs D σ H => if xs.length = is.length + 1 then ∃ x vs, xs = .str x :: vs ∧ (if x = w then tb D (setAll σ is vs) H else tr xs D σ H) else tr xs D σ H
def tMatch (K : PySem.W.Frag) (te : TE) (tm : TMc) : TS := fun D σ H => te σ H fun x H1 => ∃ a xs, x = .ref a ∧ SqT K H1 a xs ∧ tm xs D σ H1
structure PMc (X : Cx) (cases : List MatchCase) (t : TMc) : Prop where
  run : ∀ (pins : List (Addr × Obj)) (s : Shared) (σ : L2.St) (H : Hp) (D : Ends) (a : Addr) (xs : List V) (first : Bool), Inv X pins σ H s → SqT X.K H a xs → t xs D σ H → wpAny (model X.prog X.w) X.A (matchCases cases X.env (.ref a) first) (SP X pins D) X.xe s
inductive CapOk (X : Cx) : List Pattern → List (Option Nat) → Prop
  | nil : CapOk X [] []
  | name {n : Str} {i : Nat} {pos : Pos} {ps : List Pattern} {is : List (Option Nat)} : X.N[i]? = some n → Loc X.env.scope n → (X.fn n = true ∨ X.env.scope.names.lookup n = some .local) → CapOk X ps is → CapOk X (.MatchAs none (some n) pos :: ps) (some i :: is)
  | any {pos : Pos} {ps : List Pattern} {is : List (Option Nat)} : CapOk X ps is → CapOk X (.MatchAs none none pos :: ps) (none :: is)
def caps : List Pattern → List Value → List (Str × Value)
  | .MatchAs none name _ :: ps, u :: us => (name.map (·, u)).toList ++ caps ps us
  | _, _ => []
section
variable {X : Cx}
theorem CapOk.len {ps : List Pattern} {is : List (Option Nat)} (h : CapOk X ps is) : ps.length = is.length := by
  induction h with
  | nil => rfl
  | name _ _ _ _ ih => simp [ih]
  | any _ ih => simp [ih]
theorem match_caps {M : Model} {A : Around} {E : Value → Shared → Prop} {ps : List Pattern} {is : List (Option Nat)} (h : CapOk X ps is) : ∀ {us : List Value} {s : Shared} {Q : Option (List (Str × Value)) → Shared → Prop}, us.length = ps.length → Q (some (caps ps us)) s → wpAny M A (matchEach ps X.env us) Q E s := by
  induction h with
  | nil => intro us s Q hl q; exact wpAny_matchEach_nil q
  | @name n i pos ps is h1 h2 h3 h4 ih =>
    intro us s Q hl q
    cases us with
    | nil => simp at hl
    | cons u us =>
      refine wpAny_matchEach_cons (wpAny_matchPattern_Capture ?_)
      refine ih (by simpa using hl) ?_
      exact q
  | @any pos ps is h4 ih =>
    intro us s Q hl q
    cases us with
    | nil => simp at hl
    | cons u us =>
      refine wpAny_matchEach_cons (wpAny_matchPattern_Capture ?_)
      refine ih (by simpa using hl) ?_
      exact q
theorem bind_caps (hN : X.N.Nodup) {E : Value → Shared → Prop} {ps : List Pattern} {is : List (Option Nat)} (h : CapOk X ps is) : ∀ {us : List Value} {vs : List V} {pins : List (Addr × Obj)} {σ : L2.St} {H : Hp} {s : Shared} {Q : Unit → Shared → Prop}, Vals vs us → us.length = ps.length → Inv X pins σ H s →
    (∀ s', Inv X pins (setAll σ is vs) H s' → Q () s') → wpAny (model X.prog X.w) X.A (assignInOrder ((caps ps us).map fun (n, _) => bindName X.env n) ((caps ps us).map (·.2))) Q E s := by
  induction h with
  | nil =>
    intro us vs pins σ H s Q r hl I q
    cases us with
    | nil => cases r; exact assignInOrder_nil (q s I)
    | cons u us => simp at hl
  | @name n i pos ps is h1 h2 h3 h4 ih =>
    intro us vs pins σ H s Q r hl I q
    cases us with
    | nil => simp at hl
    | cons u us =>
      cases r with
      | cons rv rvs =>
        refine assignInOrder_cons (wpAny_bindName (store_ok I hN h1 h2 rv (fun s' I' => ?_) h3))
        exact ih rvs (by simpa using hl) I' q
  | @any pos ps is h4 ih =>
    intro us vs pins σ H s Q r hl I q
    cases us with
    | nil => simp at hl
    | cons u us =>
      cases r with
      | cons rv rvs => exact ih rvs (by simpa using hl) I q
theorem pmc_nil : PMc X [] mEnd := ⟨fun pins s σ H D a xs first I hq h => wpAny_matchCases_nil ⟨σ, H, I, h⟩⟩
theorem pmc_seq {w : Str} {j : Nat} {ps : List Pattern} {is : List (Option Nat)} {body : List Stmt} {rest : List MatchCase} {tb : TS} {tr : TMc} {p1 p2 p3 : Pos} (hc : X.calm = true) (hN : X.N.Nodup) (hps : CapOk X ps is) (hb : PSs X body tb) (hr : PMc X rest tr)
    (hstar : (Pattern.MatchValue (.Constant (.str w) j p1) p2 :: ps).findIdx? (·.isStar) = none := by rfl) (hwild : ((Pattern.MatchValue (.Constant (.str w) j p1) p2 :: ps).all fun p => p.isWildcard || (p.isStar && p.names.isEmpty)) = false := by rfl) :
    PMc X (⟨.MatchSequence (.MatchValue (.Constant (.str w) j p1) p2 :: ps) p3, none, body⟩ :: rest) (mSeq w is tb tr) := by
  refine ⟨fun pins s σ H D a xs first I hq h => ?_⟩
  obtain ⟨its, rv, ht, hz⟩ := I.tuple hq
  have hl : xs.length = its.length := rv.length
  refine wpAny_matchCases_cons (wpAny_matchPattern_Sequence (wpAny_collectionFlag ht.typeIs flag_seq_tuple ?_) hstar hwild)
  show wpAny _ _ (pyLen (.ref a)) _ _ s
  have hfit : (its.toArray.size : Int) < 2 ^ 63 := by
    have : its.toArray.size ≤ sizeLine := by simpa [← hl] using hz
    rw [sizeLine_eq] at this
    omega
  refine pyLen_tuple ht hfit ?_
  have I1 : Inv X pins σ H { s with toks := s.toks + 1 + 1 } := I.tok _
  have hlen : (Pattern.MatchValue (.Constant (.str w) j p1) p2 :: ps).length = is.length + 1 := by rw [List.length_cons, hps.len]
  unfold mSeq at h
  by_cases hn : xs.length = is.length + 1
  · rw [if_pos hn] at h
    obtain ⟨x, vs, rfl, h⟩ := h
    cases rv with
    | @cons _ u0 _ us r0 rvs =>
      have he : ¬ ((((u0 :: us).toArray.size : Nat) : Int) != ((Pattern.MatchValue (.Constant (.str w) j p1) p2 :: ps).length : Int)) = true := by
        rw [hlen, ← hn, hl]
        simp
      rw [if_neg he]
      have hps2 : us.length = ps.length := by
        have := hps.len
        simp only [List.length_cons] at hn hl
        omega
      have hsz : (Pattern.MatchValue (.Constant (.str w) j p1) p2 :: ps).length = (u0 :: us).toArray.size := by simp [hps2]
      rw [hsz]
      refine unpackItems_tuple (I.ok.hd hc) ht fun h' hx => ?_
      have I2 : Inv X pins σ H { s with heap := h', toks := s.toks + 1 + 1 } := I1.kept (t' := s.toks + 1 + 1) fun b o e => hx b o (Nat.ne_of_lt (Heap.lt_size e)) e
      show wpAny _ _ (matchEach (_ :: ps) X.env (u0 :: us)) _ _ _
      refine wpAny_matchEach_cons (wpAny_matchPattern_Value (thn ((pe_str (X := X) (x := w) (j := j) (pos := p1)).run pins _ σ H (fun v H' => v = .str w ∧ H' = H) I2 ⟨rfl, rfl⟩) fun u s2 ⟨v, H1, I3, ru, e1, e2⟩ => ?_))
      subst e1 e2
      refine thn (op_eq pins s2 σ H1 (.str x) (.str w) u0 u (fun z H' => z = .bl (decide (x = w)) ∧ H' = H1) I3 r0 ru ⟨rfl, ?_, rfl⟩) fun cv s3 ⟨z, H2, I4, rz, e3, e4⟩ => ?_
      · by_cases c : x = w <;> simp [c]
      subst e3 e4
      cases rz
      refine wpAny_truthy_bool ?_
      by_cases c : x = w
      · rw [if_pos c] at h
        rw [decide_eq_true c]
        show wpAny _ _ (matchEach ps X.env us) _ _ s3
        refine match_caps hps hps2 ?_
        show wpAny _ _ (assignInOrder (([] ++ caps ps us : List (Str × Value)).map fun (n, _) => bindName X.env n) (([] ++ caps ps us : List (Str × Value)).map (·.2))) _ _ s3
        rw [List.nil_append]
        refine bind_caps hN hps rvs hps2 I4 fun s' I' => ?_
        exact hb.run pins s' _ H2 D I' h
      · rw [if_neg c] at h
        rw [decide_eq_false c]
        exact hr.run pins s3 σ H2 D a _ false I4 hq h
  · rw [if_neg hn] at h
    have he : ((((its.toArray.size : Nat) : Int)) != ((Pattern.MatchValue (.Constant (.str w) j p1) p2 :: ps).length : Int)) = true := by
      rw [hlen]
      simp only [List.size_toArray, bne_iff_ne, ne_eq]
      omega
    rw [if_pos he]
    exact hr.run pins _ σ H D a xs false I1 hq h
theorem ps_match {e : Expr} {te : TE} {cases : List MatchCase} {tm : TMc} {pos : Pos} (he : PE X e te) (hm : PMc X cases tm) : PS X (.Match e cases pos) (tMatch X.K te tm) := by
  refine ⟨fun pins s σ H D I h => ?_⟩
  refine wpAny_Match (thn (he.run pins s σ H _ I h) fun u s1 ⟨x, H1, I1, rx, a, xs, ex, hq, h1⟩ => ?_)
  subst ex
  cases rx
  exact hm.run pins s1 σ H1 D a xs true I1 hq h1
end
end Pd
set_option Elab.async false
set_option linter.all false
set_option maxRecDepth 100000
set_option maxHeartbeats 2000000
/-! En: enumerate(a tuple). -/
namespace Pd
open PySem PySem.Spec PyProof.Rows L2 Evl
open AutoSeq1 (wpAny_loadPart')
theorem enum_newT (l : Addr) (items : Array Value) (n : Nat) (dct : Option Addr) (sl : Array (Option Value)) :
    Meets (Builtin.«enumerate.__new__» ⟨[.type "enumerate", .ref l], []⟩) (fun _ R s => s.heap.get? l = some { cls := .type "tuple", dict := dct, data := .seq items n, slots := sl } ∧
      R (.ok (.ret (.ref (s.heap.push { cls := .type "tuple_iterator", data := .fields #[.ref l, .int 0 0] }).objs.size)))
        { s with heap := (s.heap.push { cls := .type "tuple_iterator", data := .fields #[.ref l, .int 0 0] }).push { cls := .type "enumerate", data := .fields #[.none, .bool false, .ref s.heap.objs.size, rawInt 0, .none, .none] } }) :=
  .of_wp fun prog w A R s h => by
    obtain ⟨hp, g, d, tk, os⟩ := s; obtain ⟨hl, h⟩ := h
    have hsub := sub_enumerate
    have hL : IsTup (Shared.heap ⟨hp, g, d, tk, os⟩) l items := ⟨_, hl, rfl, n, rfl⟩
    wp_walk using wpAny_loadPart' hl
    refine wpAny_stack_any fun st => wpAny_pure ?_
    split
    · rename_i c _ _ _ _ _
      cases (c == Value.type "enumerate")
      · wp_walk using wpAny_loadPart' hl, iter_tuple hL
        exact ⟨_, rfl, h⟩
      · wp_walk using wpAny_loadPart' hl, iter_tuple hL
        exact ⟨_, rfl, h⟩
    · wp_walk using wpAny_loadPart' hl, iter_tuple hL
      exact ⟨_, rfl, h⟩
section
variable {prog : Program} {w : World} {A : Around} {E : Value → Shared → Prop} {s : Shared}
theorem call_enumT {l : Addr} {items : Array Value} {Q : Value → Shared → Prop} (hL : IsTup s.heap l items)
    (h : ∀ h', IsEnum h' (s.heap.objs.size + 1) s.heap.objs.size 0 .none → h'.IsTupleIter s.heap.objs.size l 0 → h'.objs.size = s.heap.objs.size + 2 →
      (∀ b o, s.heap.get? b = some o → h'.get? b = some o) → Q (.ref (s.heap.objs.size + 1)) { s with heap := h' }) :
    wpAny (model prog w) A (call (.type "enumerate") [.ref l]) Q E s := by
  obtain ⟨⟨c, dct, dt, sl⟩, hl, hc, n, hd⟩ := hL
  replace hc : c = .type "tuple" := hc
  replace hd : dt = .seq items n := hd
  subst hc hd
  refine callType_new F.called_enumerate (by decide) (F.typeCall_enumerate_1 _) (F.newCall_enumerate_1 _) (fun obj => F.args_object_init_2 obj _) F.entry_enumerate_new
    (enum_newT l items n dct sl) ⟨hl, ?_⟩
  have hz : (s.heap.push { cls := .type "tuple_iterator", data := .fields #[.ref l, .int 0 0] }).objs.size = s.heap.objs.size + 1 := Heap.size_push ..
  show _ ∧ _
  rw [hz]
  have he : IsEnum ((s.heap.push { cls := .type "tuple_iterator", data := .fields #[.ref l, .int 0 0] }).push
      { cls := .type "enumerate", data := .fields #[.none, .bool false, .ref s.heap.objs.size, rawInt 0, .none, .none] }) (s.heap.objs.size + 1) s.heap.objs.size 0 .none := by
    have := Heap.get?_push_size (s.heap.push { cls := .type "tuple_iterator", data := .fields #[.ref l, .int 0 0] })
      (o := { cls := .type "enumerate", data := .fields #[.none, .bool false, .ref s.heap.objs.size, rawInt 0, .none, .none] }) rfl
    rw [hz] at this; exact this
  refine ⟨⟨_, he, rfl⟩, h _ he ⟨_, Heap.get?_push_of_some _ (Heap.get?_push_size _ rfl), rfl, rfl⟩ (by rw [Heap.size_push, hz]) fun b o x => Heap.get?_push_of_some _ (Heap.get?_push_of_some _ x)⟩
end
/-- the tuple at a, each item in a new pair -/
def Iet (K : PySem.W.Frag) (a : Addr) : It :=
  ⟨fun i H => ∃ (xs : List V) (x : V), SqT K H a xs ∧ xs[i]? = some x, fun i H v H' => ∃ T x, v = .ref T ∧ H T = none ∧ H' = upd H T (.tup [.int (i : Nat), x]) ∧ ∀ xs, SqT K H a xs → xs[i]? = some x, fun i H => ∃ xs : List V, SqT K H a xs ∧ xs.length ≤ i⟩
theorem IsTup.isTuple {h : Heap} {a : Addr} {items : Array Value} (x : IsTup h a items) : h.IsTuple a items := x
theorem turn_enumT {P : Program} {w : World} {K : PySem.W.Frag} {elts : List Expr} {kk : Nat} {tpos : Pos} (a e it : Addr) :
    Turn P w K (.Tuple elts kk tpos) (Iet K a) [e, it] e (fun i h => (∃ old, IsEnum h e it ((i : Nat) : Int) old) ∧ h.IsTupleIter it a i ∧ e ≠ it) where
  mem := by simp
  obj := fun i h st b hb => by
    obtain ⟨⟨old, he⟩, ⟨o, ho, hc, hd⟩, _⟩ := st
    have e' : b = e ∨ b = it := by simpa using hb
    rcases e' with z | z
    · rw [z]; exact ⟨_, he, fun v q => nomatch q⟩
    · rw [z]; exact ⟨o, ho, fun v q => by rw [hd] at q; cases q⟩
  keep := fun i h h' st k => let ⟨⟨old, he⟩, hi, hne⟩ := st; ⟨⟨old, k e (by simp) _ he⟩, hi.at fun o q => k it (by simp) o q, hne⟩
  item := by
    intro X hP hw hK hc i pins s σ H E I hf st hg
    subst hP hw hK
    obtain ⟨⟨old, he⟩, hit, hne⟩ := st
    obtain ⟨xs, x, hq, hx⟩ := hg
    obtain ⟨its, rv, p, hz⟩ := I.tuple hq
    obtain ⟨u, hu, ru⟩ := rv.get hx
    have hel : e < s.heap.objs.size := Heap.lt_size he
    have hil : it < s.heap.objs.size := by obtain ⟨_, q, _⟩ := hit; exact Heap.lt_size q
    have hai : a ≠ it := fun z => by
      obtain ⟨o1, g1, c1, _⟩ := p
      obtain ⟨o2, g2, c2, _⟩ := hit
      rw [z, g2] at g1
      cases g1
      rw [c2] at c1
      exact absurd (Value.type.inj c1) (by decide)
    have hae : a ≠ e := fun z => by
      obtain ⟨o1, g1, c1, _⟩ := p
      rw [z, he] at g1
      cases g1
      have c1' : Value.type "enumerate" = Value.type "tuple" := c1
      exact absurd (Value.type.inj c1') (by decide)
    have hlt : i < its.toArray.size := by
      have := (List.getElem?_eq_some_iff.mp hu).1
      simpa using this
    refine wpAny_pyNext_enum_itemD (Draws.tuple (show X.A.in1.handled = none from I.ok.hd hc) it a hai its.toArray) he ⟨hit, p⟩ hlt hne (by simp [hne, Ne.symm hae]) fun x' h' tk hx' ho hit' hT hsz hk => ?_
    have exx : x' = u := by
      have : its.toArray[i]? = some u := by simpa using hu
      rw [this] at hx'
      exact (Option.some.inj hx').symm
    subst exx
    refine ⟨_, rfl, wpAny_letOwnedTupleGo_enum (s := { s with heap := h', toks := tk + 1 }) ho fun h'' he' sb => ?_⟩
    have hT2 : h''.get? s.heap.objs.size = some { cls := .type "tuple", data := .seq #[.int i tk, x'] } := (sb.2 _ (Nat.ne_of_gt hel)).trans hT
    have new : ObjOk X.prog X.w (upd H s.heap.objs.size (.tup [.int (i : Nat), x])) h'' s.heap.objs.size (.tup [.int (i : Nat), x]) :=
      ⟨by show 2 ≤ sizeLine; decide, [.int i tk, x'], .cons ⟨_, rfl⟩ (.cons ru .nil), ⟨_, hT2, rfl, _, rfl⟩⟩
    have I1 : Inv X pins σ (upd H s.heap.objs.size (.tup [.int (i : Nat), x])) { s with heap := h'', toks := tk + 1 } :=
      I.turnedNew (ch := [e, it]) (fun b ob hb q => (sb.2 b (fun z => hb (by simp [z]))).trans (hk b ob (fun z => hb (by simp [z])) (fun z => hb (by simp [z])) q)) hf (Nat.le_refl _) new
    refine ⟨.ref s.heap.objs.size, _, I1, rfl, ⟨_, x, rfl, I.hok.fresh (Nat.le_refl _), rfl, fun ys hy => by rw [I.tuple_inj hy hq]; exact hx⟩, ⟨⟨x', ?_⟩, hit'.1.at fun o q => (sb.2 it (Ne.symm hne)).trans q, hne⟩, fun b hb => ?_⟩
    · have e1 : ((i + 1 : Nat) : Int) = (i : Int) + 1 := by omega
      rw [e1]; exact he'
    · have hb' : b < s.heap.objs.size := by
        have e' : b = e ∨ b = it := by simpa using hb
        rcases e' with z | z
        · rw [z]; exact hel
        · rw [z]; exact hil
      rw [upd_ne (Nat.ne_of_lt hb')]
      exact (hf b hb).1
  done := by
    intro X hP hw hK hc i pins s σ H E I hf st hg
    subst hP hw hK
    obtain ⟨⟨old, he⟩, hit, hne⟩ := st
    obtain ⟨xs, hq, hx⟩ := hg
    obtain ⟨its, rv, p, hz⟩ := I.tuple hq
    obtain ⟨f0, f1, f2, f3, f4, f5⟩ := hf it (by simp)
    have hl := rv.length
    have hT : s.TypeIs (.ref e) "enumerate" := ⟨_, he, rfl⟩
    unfold pyNext
    refine wpAny_bind (wpAny_attempt (wpAny_callSpecial?_slot (name := Str.ofString "__next__") hT F.slot_enumerate_next
      (wpAny_call_entry F.slot_enumerate_next hT F.entry_enumerate_next ?_ (F.args_enumerate_next_1 _))))
    show wpAny _ _ (field (.ref e) 2 >>= _) _ _ _
    refine wpAny_bind (wpAny_field he rfl (x := .ref it) rfl ?_)
    refine wpAny_bind (wpAny_nextOf_tuple_end (show X.A.in1.handled = none from I.ok.hd hc) hit p (by simp; omega) fun h' x he' hx' => ?_)
    obtain ⟨o, ho, hc'⟩ := hx'
    refine wpAny_bind (wpAny_isInstance (T := "StopIteration") (b := true) ⟨o, ho, hc'⟩ isSubtype_stop ?_)
    exact wpAny_pure ⟨rfl, I.turned (t' := s.toks) (fun b o hb q => he' b o hb q) f0 f1 f3 f4 f5⟩
  self := fun A i s Q E st h => let ⟨⟨_, he⟩, _⟩ := st; wpAny_pyIter_enum he h
def iEnumT (K : PySem.W.Frag) (ta : TA) : TI := fun σ H R => ta σ H fun vs H1 => ∃ a xs, vs = [.ref a] ∧ SqT K H1 a xs ∧ R (Iet K a) H1
theorem pi_enumT {X : Cx} {e : Expr} {ta : TA} {p pos tpos : Pos} {elts : List Expr} {kk : Nat} (hg : Gl X "enumerate") (hm : X.mg "enumerate" = none) (ha : PA X [e] ta) (hs : starEach [e] X.env = [(false, eval e X.env)] := by rfl) :
    PI X (.Tuple elts kk tpos) (.Call (.Name "enumerate" p) [e] [] pos) (iEnumT X.K ta) := by
  refine ⟨fun pins s σ H R I h => ?_⟩
  refine PyProof.Rows.Call_ (ld_blt I hg hm boot_enumerate (PyProof.Rows.callWith_type1 (thn (ha.run pos pins s σ H _ I h) fun us s1 ⟨vs, H1, I1, r1, q1⟩ => ?_) hs rfl))
  obtain ⟨a, xs, ex, hq, q⟩ := q1
  subst ex
  cases r1 with
  | cons r rr =>
    cases rr
    cases r
    obtain ⟨its, rv, p', hz⟩ := I1.tuple hq
    refine call_enumT p' fun h' he hit hsz hk => wpAny_pyIter_enum he ?_
    have I2 : Inv X pins σ H1 { s1 with heap := h' } := I1.kept (t' := s1.toks) hk
    refine ⟨s1.heap.objs.size + 1, [s1.heap.objs.size + 1, s1.heap.objs.size], _, _, H1, rfl, I2, turn_enumT a (s1.heap.objs.size + 1) s1.heap.objs.size, ⟨⟨.none, he⟩, hit, Nat.succ_ne_self _⟩, fun b hb => ?_, q⟩
    have e' : b = s1.heap.objs.size + 1 ∨ b = s1.heap.objs.size := by simpa using hb
    have hle : s1.heap.objs.size ≤ b := by
      rcases e' with z | z
      · rw [z]; exact Nat.le_add_right _ _
      · rw [z]; exact Nat.le_refl _
    exact I1.fpOk hle (I1.hok.fresh hle)
theorem k_pi_enumT {X : Cx} {K : PySem.W.Frag} (hK : X.K = K) {e : Expr} {ta : TA} {p pos tpos : Pos} {elts : List Expr} {kk : Nat} (hg : Gl X "enumerate") (hm : X.mg "enumerate" = none) (ha : PA X [e] ta) (hs : starEach [e] X.env = [(false, eval e X.env)] := by rfl) :
    PI X (.Tuple elts kk tpos) (.Call (.Name "enumerate" p) [e] [] pos) (iEnumT K ta) := by subst hK; exact pi_enumT hg hm ha hs
theorem walk_enumT {K : PySem.W.Frag} {a : Addr} {xs : List V} : Walk (Iet K a) xs.length (fun H => SqT K H a xs) (YPair (fun i => some (.int (i : Nat))) (fun i => xs[i]?)) :=
  ⟨fun i _ hi q => ⟨xs, xs[i], q, by simp [hi]⟩, fun _ q => ⟨xs, q, Nat.le_refl _⟩, fun i H v H' _ q y => by
    obtain ⟨T, x, e1, e2, e3, e4⟩ := y
    exact ⟨T, _, x, e1, e2, e3, rfl, e4 xs q⟩⟩
theorem wm_enumT {K : PySem.W.Frag} {σ : L2.St} {H : Hp} {tl : TE} {ds : List PyData} {M : List Addr} (h : EvD tl σ H (.tuple ds)) (hs : stills ds = true) : WkM M (iEnumT K (tCons tl tNil)) σ H (numbered 0 ds) := fun H1 e R r =>
  h H1 e _ fun v H2 e2 iv => by
    obtain ⟨p, xs, rfl, g1, g2⟩ := iv.t
    refine ⟨p, xs, rfl, SqT.of g1, r _ H2 (fun H => SqT K H p xs) (YPair (fun i => some (.int (i : Nat))) (fun i => xs[i]?)) e2 (by rw [numbered_length, ← g2.length]; exact walk_enumT) (fun H3 e3 => SqT.of (e3.2 _ _ g1)) fun i H3 x H4 e3 yy => ?_⟩
    obtain ⟨T, a, b, rfl, hT, rfl, ha, hb⟩ := yy
    obtain ⟨d2, hd2, im2⟩ := (g2.tx e3.2 hs).get hb
    have ea : a = .int (i : Nat) := (Option.some.inj ha).symm
    subst ea
    refine ⟨Ex.new hT, .tuple [.int (i : Nat), d2], ?_, .tup upd_same (.cons (.int _) (.cons (im2.mono (Ex.new hT)) .nil))⟩
    have := numbered_get ds 0 i d2 hd2
    rw [Nat.zero_add] at this
    exact this
end Pd
set_option Elab.async false
set_option linter.all false
set_option maxRecDepth 100000
set_option maxHeartbeats 2000000
/-! Cm: methods and instances. -/
namespace Pd
open PySem PySem.Spec PyProof.Rows L2 Evl
/-- a method of the class at C, its promise kept -/
structure CalM (P : Program) (w : World) (K : PySem.W.Frag) (mg : Str → Option Value) (base : Heap) (CX : CXT) (k : Nat) (C : Addr) (m : Str) (ps : List Str) (sp : Sp) : Prop where
  ex : ∃ (f : Addr) (fd : FuncData), Meth K C m f ∧ Binds K fd ps [] ∧ FnOk P w K mg base CX k f fd ps sp
structure SrcM (K : PySem.W.Frag) (C : Addr) (m qual : Str) (st : Stmt) (ps : List Str) : Prop where
  ex : ∃ (f : Addr) (fd : FuncData), Meth K C m f ∧ Fun K m qual st f fd ∧ Binds K fd ps []
/-- the making of an instance -/
structure CalC (P : Program) (w : World) (K : PySem.W.Frag) (mg : Str → Option Value) (base : Heap) (CX : CXT) (k : Nat) (x : Str) (C : Addr) (ps : List Str) (sp : Sp) : Prop where
  ex : ∃ (f : Addr) (fd : FuncData), mg x = some (.ref C) ∧ Mk K C f ∧ Binds K fd ps [] ∧ FnOk P w K mg base CX k f fd ps sp
structure SrcC (K : PySem.W.Frag) (mg : Str → Option Value) (x : Str) (C : Addr) (qual : Str) (st : Stmt) (ps : List Str) : Prop where
  ex : ∃ (f : Addr) (fd : FuncData), mg x = some (.ref C) ∧ Mk K C f ∧ Fun K "__init__" qual st f fd ∧ Binds K fd ps []
section
variable {P : Program} {w : World} {K : PySem.W.Frag} {mg : Str → Option Value} {base : Heap}
theorem SrcM.cal {C : Addr} {m qual : Str} {st : Stmt} {N ps : List Str} {k : Nat} {sp : Sp} (F : SrcM K C m qual st ps) (S : FnScope N ps (defScope st)) (len : ∀ vs H Q E, sp vs H Q E → vs.length = ps.length)
    (hbody : ∀ (f : Addr) (cdv : Value) (A : Around) (outer : List Env) (s : Shared) (H : Hp) (vs : List V) (Q : VK) (E : XK), Room k (A.deeper (envOfC qual (defScope st) s.heap.objs.size f cdv)) → sp vs H Q E →
      ∃ t, PSs (cxOf CX0 P w K mg base N qual (defScope st) f cdv A outer s H E).nox (defBody st) t ∧ t { nx := fun _ H' => Q .non H', rt := Q } (start N vs) H) : CalM P w K mg base CX0 (k + 1) C m ps sp := by
  obtain ⟨f, fd, hm, hF, hb⟩ := F.ex
  exact ⟨f, fd, hm, hb, hF.ok S len fun cdv A outer s H vs Q E => hbody f cdv A outer s H vs Q E⟩
theorem SrcC.calX {x : Str} {C : Addr} {qual : Str} {st : Stmt} {N ps : List Str} {k : Nat} {sp : Sp} (F : SrcC K mg x C qual st ps) (S : FnScope N ps (defScope st)) (len : ∀ vs H Q E, sp vs H Q E → vs.length = ps.length)
    (hbody : ∀ (f : Addr) (cdv : Value) (A : Around) (outer : List Env) (s : Shared) (H : Hp) (vs : List V) (Q : VK) (E : XK), Room k (A.deeper (envOfC qual (defScope st) s.heap.objs.size f cdv)) → sp vs H Q E →
      ∃ t, PSs (cxOf (L2.CX P w) P w K mg base N qual (defScope st) f cdv A outer s H E) (defBody st) t ∧ t { nx := fun _ H' => Q .non H', rt := Q } (start N vs) H) : CalC P w K mg base (L2.CX P w) (k + 1) x C ps sp := by
  obtain ⟨f, fd, hx, hm, hF, hb⟩ := F.ex
  exact ⟨f, fd, hx, hm, hb, hF.okX S len fun cdv A outer s H vs Q E => hbody f cdv A outer s H vs Q E⟩
theorem SrcC.cal {x : Str} {C : Addr} {qual : Str} {st : Stmt} {N ps : List Str} {k : Nat} {sp : Sp} (F : SrcC K mg x C qual st ps) (S : FnScope N ps (defScope st)) (len : ∀ vs H Q E, sp vs H Q E → vs.length = ps.length)
    (hbody : ∀ (f : Addr) (cdv : Value) (A : Around) (outer : List Env) (s : Shared) (H : Hp) (vs : List V) (Q : VK) (E : XK), Room k (A.deeper (envOfC qual (defScope st) s.heap.objs.size f cdv)) → sp vs H Q E →
      ∃ t, PSs (cxOf CX0 P w K mg base N qual (defScope st) f cdv A outer s H E).nox (defBody st) t ∧ t { nx := fun _ H' => Q .non H', rt := Q } (start N vs) H) : CalC P w K mg base CX0 (k + 1) x C ps sp := by
  obtain ⟨f, fd, hx, hm, hF, hb⟩ := F.ex
  exact ⟨f, fd, hx, hm, hb, hF.ok S len fun cdv A outer s H vs Q E => hbody f cdv A outer s H vs Q E⟩
end
section
variable {X : Cx} {CX : CXT} {k : Nat} {ps : List Str} {sp : Sp} {E : XK} {x m : Str} {p pos apos : Pos} {e o : Expr} {es : List Expr} {t : TA} {ta : TE} {C : Addr}
theorem pe_calM {pl : Sem Bool} (M : CalM X.prog X.w X.K X.mg X.base CX k C m ps sp) (c : Cls X.K C) (hr : Room k X.A) (hx : Passes CX X E) (he : PE X o ta) (ha : PA X (e :: es) t)
    (hst : starEach (e :: es) X.env = (false, eval e X.env) :: starEach es X.env := by rfl) (hpl : (backTo pos (starEach es X.env)).any (·.1) = false := by rfl)
    (ht : eval (.Call (.Attribute o m apos) (e :: es) [] pos) X.env = (do
      let ov ← eval o X.env
      standAt apos.atName
      let (f, first) ← holding [ov] (getMethod ov m pl)
      callWith pos f first (backTo pos (starEach (e :: es) X.env)) (backToKw pos (keywordEach [] X.env))) := by rfl) :
    PE X (.Call (.Attribute o m apos) (e :: es) [] pos) (tMeth C m sp [] E ta t) := by
  obtain ⟨f, fd, hm, hb, F⟩ := M.ex
  exact pe_meth he c hm F hr hb .nil hx ha hst hpl ht
theorem pe_mkC (M : CalC X.prog X.w X.K X.mg X.base CX k x C ps sp) (hr : Room (k + 1) X.A) (hg : Gl X x) (hx : Passes CX X E)
    (ha : PA X (e :: es) t) (hdb : (x == ("__debug__" : Str)) = false := by decide) (he : starEach (e :: es) X.env = (false, eval e X.env) :: starEach es X.env := by rfl) (hpl : (backTo pos (starEach es X.env)).any (·.1) = false := by rfl) :
    PE X (.Call (.Name x p) (e :: es) [] pos) (tMake C sp [] E t) := by
  obtain ⟨f, fd, hm, hM, hb, F⟩ := M.ex
  exact pe_make hM F hr hg hm hb .nil hx ha hdb he hpl
theorem k_fld {K : PySem.W.Frag} (hK : X.K = K) {f : Str} (he : PE X e ta) (hb : attributeBase e f X.env (eval e X.env) = eval e X.env) : PE X (.Attribute e f pos) (tFld K ta f) := by subst hK; exact pe_fld he hb
end
section
variable {K : PySem.W.Frag} {σ : L2.St} {H H' : Hp} {ta tb te tx tl to : TE} {x y z v : V} {d d' : PyData} {ds : List PyData} {C a dx : Addr} {fs : List (Str × V)} {f m : Str}
theorem ed_fld (h : Ev ta σ H (.ref a)) (hi : H a = some (.ins C dx fs)) (hc : Cls K C) (hn : NoAttr K C f) (hl : fs.lookup f = some v) (hv : Im H v d) : EvD (tFld K ta f) σ H d := fun H1 e Q q =>
  h H1 e _ fun H2 e2 => ⟨a, C, dx, fs, v, rfl, (e.trans e2) _ _ hi, hc, hn, hl, q v H2 e2 (hv.mono (e.trans e2))⟩
/-- a method of an instance, its answer a datum -/
def SpS {α : Type} (S : α → Addr → Hp → Prop) (R : α → List PyData → PyData → Prop) : Sp := fun vs H Q _ => ∃ (x : α) (a : Addr) (ws : List V) (ds : List PyData) (d : PyData), vs = .ref a :: ws ∧ S x a H ∧ Ims H ws ds ∧ R x ds d ∧ ∀ v H', Ex H H' → Im H' v d → Q v H'
theorem ed_meth {α : Type} {S : α → Addr → Hp → Prop} {R : α → List PyData → PyData → Prop} {E : XK} {ta : TE} {tar : TA} {x : α} (ho : Ev ta σ H (.ref a)) (hi : H a = some (.ins C dx fs)) (hl : fs.lookup m = none) (hS : S x a H) (hm : ∀ H1, Ex H H1 → S x a H → S x a H1) (hd : EvDs tar σ H ds) (hR : R x ds d) :
    EvD (tMeth C m (SpS S R) [] E ta tar) σ H d := fun H1 e Q q => ho H1 e _ fun H2 e2 => ⟨a, dx, fs, rfl, (e.trans e2) _ _ hi, hl, hd H2 (e.trans e2) _ fun vs H3 e3 iv => ⟨x, a, vs, ds, d, by rw [List.append_nil], hm H3 ((e.trans e2).trans e3) hS, iv, hR, fun v H4 e4 i4 => q v H4 ((e2.trans e3).trans e4) i4⟩⟩
/-- x in xs, flat values -/
theorem ed_inV {neg : Bool} {ds : List PyData} {xs : List V} (ha : EvD ta σ H d) (hv : ∀ H1 v, Im H1 v d → v = x) (hf : flatV x = true) (hb : EvD tb σ H (.tuple ds)) (hx : ∀ H1 vs, Ims H1 vs ds → vs = xs) (hfs : xs.all flatV = true) : EvD (tOp (rIn K neg) ta tb) σ H (.bool (if neg then !inV x xs else inV x xs)) :=
  ed_op ha hb fun v y H1 e hv1 hy Q q => by
    obtain ⟨p, ys, rfl, h1, h2⟩ := hy.t
    have e1 := hv H1 v hv1
    have e2 := hx H1 ys h2
    subst e1 e2
    exact ⟨p, ys, rfl, .inr (SqT.of h1), hf, hfs, q _ H1 (Ex.refl H1) (.bl _)⟩
/-- == of scalars -/
theorem ed_eqV (ha : EvD ta σ H d) (hb : EvD tb σ H d') (hx : ∀ H1 v, Im H1 v d → v = x) (hy : ∀ H1 v, Im H1 v d' → v = y) (hs : scal x y = true) : EvD (tOp rEq ta tb) σ H (.bool (decide (x = y))) :=
  ed_op ha hb fun v u H1 e hv hu Q q => by
    have e1 := hx H1 v hv
    have e2 := hy H1 u hu
    subst e1 e2
    exact ⟨hs, q _ H1 (Ex.refl H1) (.bl _)⟩
/-- a comprehension whose items are drawn: all new ones are still and hold PD -/
theorem lc_drawn {wi : TI} {j : Nat} {vs : List Nat} {tp c : Addr} {C : List PyData → Hp → Prop} {Q : VK} {PD : PyData → Prop} (T : Tape tp c H) (hk : Run wi σ H [tp, c] C) (hC : ∀ src H2, C src H2 → src.length ≤ 1000 ∧ Go tp c H H2) (hst : ∀ d, PD d → still d = true)
    (hb : ∀ (src : List PyData) (i : Nat) (d : PyData) (x : V) (H2 H1 : Hp), C src H2 → src[i]? = some d → Go tp c H H1 → Im H1 x d → ∀ Q : VK, (∀ v d' H3, Go tp c H1 H3 → PD d' → Im H3 v d' → Q v H3) → te ((wipe σ vs).set j (some x)) H1 Q) (hw : ∀ x, wipe ((wipe σ vs).set j (some x)) vs = wipe σ vs)
    (k : ∀ p xs ds src H2 H', C src H2 → Go tp c H H' → H p = none → (∀ d ∈ ds, PD d) → ds.length = src.length → H' p = some (.lst xs) → Ims H' xs ds → Q (.ref p) H') : tLc wi (gName j) tYes te vs σ H Q := by
  refine hk _ fun J H2 G Y src hc W hG hY Dl hD => ?_
  obtain ⟨hsz, g2⟩ := hC src H2 hc
  have T2 := g2.2
  refine lc_it W (fun i H' => Go tp c H2 H' ∧ ∃ acc ds, acc.length = i ∧ H' Dl = some (.lst acc) ∧ Ims H' acc ds ∧ ds.length = i ∧ ∀ d ∈ ds, PD d)
    ⟨(Go.refl T2).mut T2 hD, [], [], rfl, upd_same, .nil, rfl, fun d hd => by cases hd⟩ (fun i H' _ p => hG H' p.1.1) (fun i x H3 H4 hi p y => ?_) fun H' p => ?_
  · obtain ⟨g, acc, ds, q1, q2, q3, q4, q5⟩ := p
    obtain ⟨e34, d, hd, im⟩ := hY i H3 x H4 g.1 y
    have g4 : Go tp c H2 H4 := g.ex e34
    refine ⟨hw x, ?_⟩
    show te ((wipe σ vs).set j (some x)) H4 _
    refine hb src i d x H2 H4 hc hd (g2.trans g4) im _ fun v d' H5 g5 hp iv => ?_
    have D5 : H5 Dl = some (.lst acc) := g5.at (T2.notin hD) (e34 _ _ q2)
    have hstd : stills ds = true := by
      clear q3 q4
      induction ds with
      | nil => rfl
      | cons a l ih =>
        show (still a && stills l) = true
        rw [hst a (q5 a (List.mem_cons_self ..)), ih fun d hd => q5 d (List.mem_cons_of_mem _ hd)]
        rfl
    refine ⟨acc, D5, sz_lt (by omega), (g4.trans g5).mut T2 hD, acc ++ [v], ds ++ [d'], by rw [List.length_append, q1]; rfl, upd_same, ?_, by rw [List.length_append, q4]; rfl, fun d hd => ?_⟩
    · exact Ims.append (((q3.mono e34).tx g5.1.2 hstd).tx (tx_lst D5) hstd) (.cons (iv.tx (tx_lst D5) (hst d' hp)) .nil)
    · rcases List.mem_append.mp hd with hd | hd
      · exact q5 d hd
      · have : d = d' := by simpa using hd
        rw [this]; exact hp
  · obtain ⟨g, acc, ds, q1, q2, q3, q4, q5⟩ := p
    refine k Dl acc ds src H2 H' hc (g2.trans g) ?_ q5 q4 q2 q3
    cases c0 : H Dl with
    | none => rfl
    | some o =>
      exfalso
      by_cases hm : Dl ∈ [tp, c]
      · exact T2.notin hD hm
      · rw [g2.at hm c0] at hD
        cases hD
end
end Pd
set_option Elab.async false
set_option linter.all false
set_option maxRecDepth 100000
set_option maxHeartbeats 4000000
namespace K35
open PySem PySem.Spec PyProof.Rows L2 Evl Pd
def topS (i : Nat) : Stmt := PySem.Challenge.pw_gleanworld_k35_whole_what_keeps_kinds.main.body.getD i (.Pass ⟨0, 0, 0, 0⟩)
abbrev st_is_name : Stmt := topS 8
theorem sc_is_name : FnScope ["value", "sign"] ["value"] (defScope st_is_name) := ⟨rfl, rfl, rfl, by decide +kernel, rfl, by decide +kernel, by decide +kernel⟩
abbrev st_is_entry : Stmt := topS 9
theorem sc_is_entry : FnScope ["value", "names", "rest", "word", "one", "other"] ["value", "names"] (defScope st_is_entry) := ⟨rfl, rfl, rfl, by decide +kernel, rfl, by decide +kernel, by decide +kernel⟩
abbrev st_is_table : Stmt := topS 10
theorem sc_is_table : FnScope ["value", "names", "_", "cells", "row", "name", "one", "other", "entry"] ["value"] (defScope st_is_table) := ⟨rfl, rfl, rfl, by decide +kernel, rfl, by decide +kernel, by decide +kernel⟩
abbrev st_check_table : Stmt := topS 11
theorem sc_check_table : FnScope ["table"] ["table"] (defScope st_check_table) := ⟨rfl, rfl, rfl, by decide +kernel, rfl, by decide +kernel, by decide +kernel⟩
abbrev st_cells_in : Stmt := topS 12
theorem sc_cells_in : FnScope ["table", "name", "one", "cells"] ["table", "name"] (defScope st_cells_in) := ⟨rfl, rfl, rfl, by decide +kernel, rfl, by decide +kernel, by decide +kernel⟩
abbrev st_name_in : Stmt := topS 13
theorem sc_name_in : FnScope ["entry", "word"] ["entry"] (defScope st_name_in) := ⟨rfl, rfl, rfl, by decide +kernel, rfl, by decide +kernel, by decide +kernel⟩
abbrev st_Told_init : Stmt := inClass (topS 15) 0
theorem sc_Told_init : FnScope ["self", "table", "roots", "registers", "name"] ["self", "table", "roots", "registers"] (defScope st_Told_init) := ⟨rfl, rfl, rfl, by decide +kernel, rfl, by decide +kernel, by decide +kernel⟩
abbrev st_Told_entry : Stmt := inClass (topS 15) 1
theorem sc_Told_entry : FnScope ["self", "place", "k", "cells"] ["self", "place", "k"] (defScope st_Told_entry) := ⟨rfl, rfl, rfl, by decide +kernel, rfl, by decide +kernel, by decide +kernel⟩
abbrev st_Told_may_put : Stmt := inClass (topS 15) 2
theorem sc_Told_may_put : FnScope ["self", "place", "size", "cells", "entry"] ["self", "place", "size"] (defScope st_Told_may_put) := ⟨rfl, rfl, rfl, by decide +kernel, rfl, by decide +kernel, by decide +kernel⟩
abbrev st_Told_may_set : Stmt := inClass (topS 15) 3
theorem sc_Told_may_set : FnScope ["self", "place", "k", "entry"] ["self", "place", "k"] (defScope st_Told_may_set) := ⟨rfl, rfl, rfl, by decide +kernel, rfl, by decide +kernel, by decide +kernel⟩
abbrev st_Told_may_load : Stmt := inClass (topS 15) 4
theorem sc_Told_may_load : FnScope ["self", "target", "place", "k", "entry"] ["self", "target", "place", "k"] (defScope st_Told_may_load) := ⟨rfl, rfl, rfl, by decide +kernel, rfl, by decide +kernel, by decide +kernel⟩
abbrev st_Told_may_store : Stmt := inClass (topS 15) 5
theorem sc_Told_may_store : FnScope ["self", "place", "k", "source", "entry"] ["self", "place", "k", "source"] (defScope st_Told_may_store) := ⟨rfl, rfl, rfl, by decide +kernel, rfl, by decide +kernel, by decide +kernel⟩
abbrev st_Told_allows : Stmt := inClass (topS 15) 6
theorem sc_Told_allows : FnScope ["self", "operation", "place", "size", "k", "target", "source", "root"] ["self", "operation"] (defScope st_Told_allows) := ⟨rfl, rfl, rfl, by decide +kernel, rfl, by decide +kernel, by decide +kernel⟩
abbrev st_kind_fault : Stmt := topS 16
theorem sc_kind_fault : FnScope ["table", "roots", "registers", "program", "told", "index", "operation"] ["table", "roots", "registers", "program"] (defScope st_kind_fault) := ⟨rfl, rfl, rfl, by decide +kernel, rfl, by decide +kernel, by decide +kernel⟩
abbrev st_keeping : Stmt := topS 17
theorem sc_keeping : FnScope ["table", "roots", "registers", "program", "told", "operation"] ["table", "roots", "registers", "program"] (defScope st_keeping) := ⟨rfl, rfl, rfl, by decide +kernel, rfl, by decide +kernel, by decide +kernel⟩
abbrev st__law_tape : Stmt := topS 19
theorem sc__law_tape : FnScope ["script", "seed", "cell"] ["script"] (defScope st__law_tape) := ⟨rfl, rfl, rfl, by decide +kernel, rfl, by decide +kernel, by decide +kernel⟩
abbrev st__law_draw : Stmt := topS 20
theorem sc__law_draw : FnScope ["tape", "many", "cells", "number"] ["tape", "many"] (defScope st__law_draw) := ⟨rfl, rfl, rfl, by decide +kernel, rfl, by decide +kernel, by decide +kernel⟩
abbrev st__law_pick : Stmt := topS 21
theorem sc__law_pick : FnScope ["tape", "row"] ["tape", "row"] (defScope st__law_pick) := ⟨rfl, rfl, rfl, by decide +kernel, rfl, by decide +kernel, by decide +kernel⟩
abbrev st__law_table : Stmt := topS 22
theorem sc__law_table : FnScope ["tape", "names", "rows", "name", "entries", "k", "words", "word"] ["tape"] (defScope st__law_table) := ⟨rfl, rfl, rfl, by decide +kernel, rfl, by decide +kernel, by decide +kernel⟩
abbrev st__law_entries : Stmt := topS 23
theorem sc__law_entries : FnScope ["table", "name", "row"] ["table", "name"] (defScope st__law_entries) := ⟨rfl, rfl, rfl, by decide +kernel, rfl, by decide +kernel, by decide +kernel⟩
abbrev st__law_same : Stmt := topS 25
theorem sc__law_same : FnScope ["one", "other", "k"] ["one", "other"] (defScope st__law_same) := ⟨rfl, rfl, rfl, by decide +kernel, rfl, by decide +kernel, by decide +kernel⟩
abbrev st__law_allows : Stmt := topS 26
theorem sc__law_allows : FnScope ["table", "roots", "registers", "operation", "word", "place", "entries", "k", "name", "entry", "one"] ["table", "roots", "registers", "operation"] (defScope st__law_allows) := ⟨rfl, rfl, rfl, by decide +kernel, rfl, by decide +kernel, by decide +kernel⟩
abbrev st__law_operation : Stmt := topS 27
theorem sc__law_operation : FnScope ["tape", "roots", "registers", "r", "q", "k", "made"] ["tape", "roots", "registers"] (defScope st__law_operation) := ⟨rfl, rfl, rfl, by decide +kernel, rfl, by decide +kernel, by decide +kernel⟩
abbrev st__law_refused : Stmt := topS 28
theorem sc__law_refused : FnScope ["tape", "table", "roots", "registers", "name", "wrong", "bad", "count", "turn"] ["tape", "table", "roots", "registers"] (defScope st__law_refused) := ⟨rfl, rfl, rfl, by decide +kernel, rfl, by decide +kernel, by decide +kernel⟩
abbrev st_law : Stmt := topS 29
theorem sc_law : FnScope ["script", "tape", "turn", "table", "names", "roots", "registers", "program", "good", "due", "row", "k", "operation"] ["script"] (defScope st_law) := ⟨rfl, rfl, rfl, by decide +kernel, rfl, by decide +kernel, by decide +kernel⟩
/-- what the top has written of plain names -/
structure Txt (K : PySem.W.Frag) (mg : Str → Option Value) : Prop where
  n_isinstance : mg "isinstance" = none
  n_len : mg "len" = none
  n_all : mg "all" = none
  n_zip : mg "zip" = none
  n_tuple : mg "tuple" = none
  n_str : mg "str" = none
  n_enumerate : mg "enumerate" = none
  n_sorted : mg "sorted" = none
  n_int : mg "int" = none
  n_abs : mg "abs" = none
  n_list : mg "list" = none
  n_range : mg "range" = none
  n_any : mg "any" = none
  c_MOST_NAME : ∃ u, mg "MOST_NAME" = some u ∧ RelV (.int 12) u
  c_LETTERS : ∃ u, mg "LETTERS" = some u ∧ RelV (.str "abcdefghijklmnopqrstuvwxyz") u
  c_INTEGER : ∃ u, mg "INTEGER" = some u ∧ RelV (.str "integer") u
  c_NONE : ∃ u, mg "NONE" = some u ∧ RelV (.str "none") u
end K35
set_option Elab.async false
set_option linter.all false
set_option maxRecDepth 100000
set_option maxHeartbeats 4000000
namespace K35
open PySem PySem.Spec PyProof.Rows L2 Evl Pd
def letters : List Nat := ("abcdefghijklmnopqrstuvwxyz" : Str).cps.toList
def isName (s : Str) : Bool := !(decide (s = ("" : Str)) || (decide ((12 : Int) < s.length) || decide (s ∈ (["integer", "none"] : List Str)))) && s.cps.toList.all (fun c => decide (c ∈ letters))
def sp_is_name : Sp := SpQ fun ds d => ∃ s : Str, ds = [.str s] ∧ s.length ≤ 1000 ∧ d = .bool (isName s)
section
variable {P : Program} {w : World} {K : PySem.W.Frag} {mg : Str → Option Value} {base : Heap}
theorem cal_is_name (S : Src K mg "is_name" st_is_name ["value"]) (T : Txt K mg) : Cal P w K mg base CX0 1 "is_name" ["value"] sp_is_name := by
  have sc := sc_is_name
  refine S.cal (k := 0) sc (SpQ.len fun ds d h => by obtain ⟨s, rfl, _⟩ := h; rfl) (fun f cdv A outer s H vs Q E hr h => ⟨_, (pss_cons (ps_if (PW.pt (pw_or (pt_not (pt_val (pe_callB (k_isi (K := K) rfl) (by rfl) T.n_isinstance (by decide +kernel) (pa_cons (pv 0) (pa_cons (pe_bltn (v := .ty "str") (by rfl) T.n_str (by decide +kernel) rfl) pa_nil))))) (pw_or (pt_cmpR op_eq (pv 0) pe_str (nomark _)) (pw_or (pt_cmpR op_gt (pe_callB call_len_str (by rfl) T.n_len PySem.boot_len (pa_cons (pv 0) pa_nil)) (pe_gl rfl T.c_MOST_NAME) (nomark _)) (pw_or1 (pt_cmpR (k_in_seq (K := K) rfl) (pv 0) (pe_tup (pa_cons (pe_gl rfl T.c_INTEGER) (pa_cons (pe_gl rfl T.c_NONE) pa_nil))) (by rfl))))))) (pss_one (ps_ret pe_bl)) pss_nil)
  (pss_one (ps_ret (pe_callB (k_all (K := K) rfl rfl) (by rfl) T.n_all (by decide +kernel) (pa_cons (pe_lc (own := [("sign", 1)]) rfl sc.nd (pi_str (pv 0)) (blkOk_by (by first | decide +kernel | kernel_rfl)) (fun _ _ _ _ _ => (pg_name (i := 1) sc.nd rfl (by first | exact Or.inl rfl | exact Or.inr rfl))) (fun _ _ _ _ _ => pts_nil) (fun _ _ _ _ _ => (pe_cmpR op_in_sign (pv 1) (pe_gl rfl T.c_LETTERS) (by rfl)))) pa_nil))))), ?_⟩)
  · obtain ⟨ds, d, i, ⟨z, rfl, hz, rfl⟩, k⟩ := h
    obtain ⟨v, rfl, iv⟩ := i.one
    have e := iv.s
    subst e
    have hv : ∀ H1, EvD (tVar 0) (start ["value", "sign"] [V.str z]) H1 (.str z) := fun H1 => ed_var rfl (.str z)
    refine q_when (et_or (et_not (et_DB (ed_isi (hv H) kt_str_str))) (fun _ => et_or (et_D (ed_eqS (hv H) (ed_s _))) (fun _ => et_or (et_D (ed_B0 (ed_lenS (hv H) (by omega)) (ed_i 12))) (fun _ => et_D (ed_inT (ss := ["integer", "none"]) (hv H) (ed_tup (ea1 (ed_s _) (ea1 (ed_s _) ea0)) (by decide))))))) ?_ ?_
    · intro hb H1 e1
      refine s_retD (ed_b false) fun v H2 e2 iv => k v H2 (e1.trans e2) ?_
      have : isName z = false := by
        unfold isName
        have hb' : (decide (z = ("" : Str)) || (decide ((12 : Int) < z.length) || decide (z ∈ (["integer", "none"] : List Str)))) = true := by simpa using hb
        rw [hb']; rfl
      show Im H2 v (.bool (isName z))
      rw [this]; exact iv
    · intro hb H1 e1
      refine s_retD (ed_all (bs := z.cps.toList.map fun c => decide (c ∈ letters)) (EvD.is (en_lcS (fun c => .bool (decide (c ∈ letters))) (hv H1) (by omega) (fun c hc H2 e2 => ed_inSign (ed_var rfl (.str _)) (ed_s _)) (fun _ _ => rfl)).toD (by rw [List.map_map]; rfl))) fun v H2 e2 iv => k v H2 (e1.trans e2) ?_
      have : isName z = (z.cps.toList.map fun c => decide (c ∈ letters)).all id := by
        unfold isName
        have hb' : (decide (z = ("" : Str)) || (decide ((12 : Int) < z.length) || decide (z ∈ (["integer", "none"] : List Str)))) = false := by simpa using hb
        rw [hb', List.all_map]; rfl
      show Im H2 v (.bool (isName z))
      rw [this]; exact iv
end
end K35
set_option Elab.async false
set_option linter.all false
set_option maxRecDepth 100000
set_option maxHeartbeats 4000000
namespace K35
open PySem PySem.Spec PyProof.Rows L2 Evl Pd
abbrev eS (e : List Str) : PyData := .tuple (e.map .str)
def ltS (a b : Str) : Bool := decide (a.cps.toList < b.cps.toList)
def asc (ss : List Str) : Bool := (ss.zip (ss.drop 1)).all fun p => ltS p.1 p.2
def plain (w : Str) : Bool := decide (w ∈ (["integer", "none"] : List Str))
def restOf (e : List Str) : List Str := e.filter fun w => !plain w
def isEntry (e names : List Str) : Bool := !(e.isEmpty || !asc e) && (decide (((restOf e).length : Int) ≤ 1) && (restOf e).all fun w => decide (w ∈ names))
def sp_is_entry : Sp := SpQ fun ds d => ∃ e ns : List Str, ds = [eS e, .list (ns.map .str)] ∧ e.length ≤ 1000 ∧ ns.length ≤ 1000 ∧ (∀ w ∈ e, PyData.strOk w = true) ∧ d = .bool (isEntry e ns)
section
variable {P : Program} {w : World} {K : PySem.W.Frag} {mg : Str → Option Value} {base : Heap}
theorem drop_strs (e : List Str) (k : Nat) : (e.map PyData.str).drop k = (e.drop k).map PyData.str := by rw [List.map_drop]
theorem all_true {α : Type} (l : List α) : (l.map fun _ => true).all id = true := by rw [List.all_map]; simp
theorem cal_is_entry (S : Src K mg "is_entry" st_is_entry ["value", "names"]) (T : Txt K mg) : Cal P w K mg base CX0 1 "is_entry" ["value", "names"] sp_is_entry := by
  have sc := sc_is_entry
  refine S.cal (k := 0) sc (SpQ.len fun ds d h => by obtain ⟨s, _, rfl, _⟩ := h; rfl) (fun f cdv A outer s H vs Q E hr h => ⟨_, (pss_cons (ps_if (PW.pt (pw_or (pt_not (pt_val (pe_callB (k_isi (K := K) rfl) (by rfl) T.n_isinstance (by decide +kernel) (pa_cons (pv 0) (pa_cons (pe_bltn (v := .ty "tuple") (by rfl) T.n_tuple (by decide +kernel) rfl) pa_nil))))) (pw_or (pt_cmpR (k_eqD (K := K) rfl (hr.units)) (pv 0) (pe_tup pa_nil) (nomark _)) (pw_or1 (pt_not (pt_val (pe_callB (k_all (K := K) rfl rfl) (by rfl) T.n_all (by decide +kernel) (pa_cons (pe_lc (own := [("word", 3)]) rfl sc.nd (k_pi_tup (K := K) rfl (pv 0)) (blkOk_by (by first | decide +kernel | kernel_rfl)) (fun _ _ _ _ _ => (pg_name (i := 3) sc.nd rfl (by first | exact Or.inl rfl | exact Or.inr rfl))) (fun _ _ _ _ _ => pts_nil) (fun _ _ _ _ _ => (pe_callB (k_isi (K := K) rfl) (by rfl) T.n_isinstance (by decide +kernel) (pa_cons (pv 3) (pa_cons (pe_bltn (v := .ty "str") (by rfl) T.n_str (by decide +kernel) rfl) pa_nil))))) pa_nil)))))))) (pss_one (ps_ret pe_bl)) pss_nil)
  (pss_cons (ps_if (pt_not (pt_val (pe_callB (k_all (K := K) rfl rfl) (by rfl) T.n_all (by decide +kernel) (pa_cons (pe_lc (own := [("one", 4), ("other", 5)]) rfl sc.nd (k_pi_zipA (K := K) rfl (by rfl) T.n_zip (pa_cons (pv 0) (pa_cons (pe_slice (k_sl_tupA (K := K) rfl) (pv 0) (po_some pe_int) po_none) pa_nil))) (blkOk_by (by first | decide +kernel | kernel_rfl)) (fun _ _ _ _ _ => (k_pg_tup (K := K) (n := 2) rfl rfl (pgs_cons (pg_name (i := 4) sc.nd rfl (by first | exact Or.inl rfl | exact Or.inr rfl)) (pgs_cons (pg_name (i := 5) sc.nd rfl (by first | exact Or.inl rfl | exact Or.inr rfl)) pgs_nil)))) (fun _ _ _ _ _ => pts_nil) (fun _ _ _ _ _ => (pe_cmpR op_lt_str (pv 4) (pv 5) (nomark _)))) pa_nil)))) (pss_one (ps_ret pe_bl)) pss_nil)
  (pss_cons (ps_setLc (i := 2) (own := [("word", 3)]) rfl sc.nd rfl rfl (sw_true rfl rfl rfl (by decide +kernel)) (k_pi_tup (K := K) rfl (pv 0)) (blkOk_by (by first | decide +kernel | kernel_rfl)) (fun _ _ _ _ _ => (pg_name (i := 3) sc.nd rfl (by first | exact Or.inl rfl | exact Or.inr rfl))) (fun _ _ _ _ _ => (pts_one (pt_cmpR (k_notIn_seq (K := K) rfl) (pv 3) (pe_tup (pa_cons (pe_gl rfl T.c_INTEGER) (pa_cons (pe_gl rfl T.c_NONE) pa_nil))) (by rfl)))) (fun _ _ _ _ _ => (pv 3)))
  (pss_one (ps_ret (pe_and (pe_cmpR op_le (pe_callB (k_len_seq (K := K) rfl) (by rfl) T.n_len PySem.boot_len (pa_cons (pv 2) pa_nil)) pe_int (nomark _)) (pe_one (pe_callB (k_all (K := K) rfl rfl) (by rfl) T.n_all (by decide +kernel) (pa_cons (pe_lc (own := [("word", 3)]) rfl sc.nd (k_pi_list (K := K) rfl (pv 2)) (blkOk_by (by first | decide +kernel | kernel_rfl)) (fun _ _ _ _ _ => (pg_name (i := 3) sc.nd rfl (by first | exact Or.inl rfl | exact Or.inr rfl))) (fun _ _ _ _ _ => pts_nil) (fun _ _ _ _ _ => (pe_cmpR (k_in_seq (K := K) rfl) (pv 3) (pv 1) (by rfl)))) pa_nil))))))))), ?_⟩)
  · obtain ⟨ds, d, i, ⟨e, ns, rfl, he, hn, hok, rfl⟩, k⟩ := h
    obtain ⟨v, n, rfl, iv, inn⟩ := i.two
    have hv : ∀ H1, Ex H H1 → EvD (tVar 0) (start ["value", "names", "rest", "word", "one", "other"] [v, n]) H1 (eS e) := fun H1 x => ed_var rfl (iv.mono x)
    refine q_when (et_or (et_not (et_DB (ed_isi (hv H (Ex.refl H)) kt_tuple_tuple))) (fun _ => et_or (et_D (ed_eqD (hv H (Ex.refl H)) (ed_tup ea0 (by decide)) (shaped_strs hok) shaped_nil)) (fun _ => et_not (et_DB (ed_all (bs := e.map fun _ => true) (EvD.is (en_lcM (emb := .str) (l := e) (fun _ => .bool true) (wk_tup (hv H (Ex.refl H))) (by omega) (fun d hd x H1 e1 im => ed_isi (ed_var rfl im) kt_str_str) (fun _ _ => rfl)).toD (by rw [List.map_map]; rfl))))))) ?_ ?_
    · intro hb H1 e1
      refine s_retD (ed_b false) fun v H2 e2 iv => k v H2 (e1.trans e2) ?_
      have : isEntry e ns = false := by
        rw [eqv_nil, all_true] at hb
        unfold isEntry
        have : e.isEmpty = true := by simpa using hb
        rw [this]; rfl
      rw [this]; exact iv
    · intro hb H1 e1
      rw [eqv_nil, all_true] at hb
      have hne : e.isEmpty = false := by simpa using hb
      have hv1 := hv H1 e1
      have hz : EvDs (tCons (tVar 0) (tCons (tSl (rSlA K) (tVar 0) (tPart (tC (.int 1))) tNoPart) tNil)) (start ["value", "names", "rest", "word", "one", "other"] [v, n]) H1 [eS e, eS (e.drop 1)] :=
        ea1 hv1 (ea1 (EvD.is (ed_slA hv1 (eo_i (ed_i 1)) eo_none) (by rw [show (1 : Int) = ((1 : Nat) : Int) from rfl, cutD_from, drop_strs])) ea0)
      refine q_when (et_not (et_DB (ed_all (bs := (e.zip (e.drop 1)).map fun p => ltS p.1 p.2) (EvD.is (en_lcP (l := e.zip (e.drop 1)) (e1 := fun p => .str p.1) (e2 := fun p => .str p.2) (fun p => .bool (ltS p.1 p.2)) (by rw [← pairs_map]; exact wk_zipT hz) (by rw [List.length_zip]; omega) (fun d hd x y H2 e2 ix iy => ed_ltS (ed_var rfl ix) (ed_var rfl iy)) (fun _ _ => rfl)).toD (by rw [List.map_map]; rfl))))) ?_ ?_
      · intro hb2 H2 e2
        refine s_retD (ed_b false) fun v H3 e3 iv => k v H3 ((e1.trans e2).trans e3) ?_
        have : isEntry e ns = false := by
          unfold isEntry asc
          rw [List.all_map] at hb2
          have hb3 : (e.zip (e.drop 1)).all (fun p => ltS p.1 p.2) = false := by simpa using hb2
          rw [hb3]; simp
        rw [this]; exact iv
      · intro hb2 H2 e2
        have hv2 := hv H2 (e1.trans e2)
        refine q_asgN (ds := (restOf e).map .str) (EvN.is (en_lc (emb := .str) (l := e) .str (fun w => !plain w) (wk_tup hv2) (by omega) (fun d hd x H1 e1 im => ⟨et_D (ed_niT (ss := ["integer", "none"]) (ed_var rfl im) (ed_tup (ea1 (ed_s _) (ea1 (ed_s _) ea0)) (by decide))), fun _ => ed_var rfl im⟩) (fun _ _ _ => rfl)) rfl) ?_
        intro p xs H3 np e3 g1 g2
        have im : Im H3 (.ref p) (.list ((restOf e).map .str)) := .lst g1 g2
        have in3 := inn.mono ((e1.trans e2).trans e3)
        refine s_retD (d := .bool (decide (((restOf e).length : Int) ≤ 1) && (restOf e).all fun w => decide (w ∈ ns))) (ed_and (ed_B0 (EvD.is (ed_lenL (ed_var rfl im)) (by rw [List.length_map])) (ed_i 1)) (fun _ => EvD.is (ed_all (bs := (restOf e).map fun w => decide (w ∈ ns)) (EvD.is (en_lcM (emb := .str) (l := restOf e) (fun w => .bool (decide (w ∈ ns))) (wk_list (ed_var rfl im)) ?_ (fun d hd x H4 e4 ix => ed_inL (ed_var rfl ix) (ed_var rfl (in3.mono e4))) (fun _ _ => rfl)).toD (by rw [List.map_map]; rfl))) (by rw [List.all_map]; rfl))) ?_
        · have := List.length_filter_le (fun w => !plain w) e
          unfold restOf; omega
        · intro v H4 e4 iv
          refine k v H4 (((e1.trans e2).trans e3).trans e4) ?_
          have : isEntry e ns = (decide (((restOf e).length : Int) ≤ 1) && (restOf e).all fun w => decide (w ∈ ns)) := by
            unfold isEntry asc
            rw [List.all_map] at hb2
            have hb3 : (e.zip (e.drop 1)).all (fun p => ltS p.1 p.2) = true := by simpa using hb2
            rw [hb3, hne]; rfl
          rw [this]; exact iv
end
end K35
set_option Elab.async false
set_option linter.all false
set_option maxRecDepth 100000
set_option maxHeartbeats 4000000
namespace K35
open PySem PySem.Spec PyProof.Rows L2 Evl Pd
abbrev TRow : Type := Str × List (List Str)
abbrev eC (c : List (List Str)) : PyData := .tuple (c.map fun e => eS e)
abbrev eRow (r : TRow) : PyData := .tuple [.str r.1, eC r.2]
abbrev eT (t : List TRow) : PyData := .tuple (t.map eRow)
def namesOf (t : List TRow) : List Str := t.map (·.1)
def rowOk (ns : List Str) (r : TRow) : Bool := !(r.2.isEmpty || !(r.2.all fun e => isEntry e ns))
def isTable (t : List TRow) : Bool := !(!(namesOf t).all isName || !asc (namesOf t)) && t.all (rowOk (namesOf t))
structure GoodR (r : TRow) : Prop where
  n : r.1.length ≤ 1000
  c : r.2.length ≤ 1000
  e : ∀ e ∈ r.2, e.length ≤ 1000 ∧ ∀ w ∈ e, PyData.strOk w = true
structure GoodT (t : List TRow) : Prop where
  len : t.length ≤ 1000
  row : ∀ r ∈ t, GoodR r
def sp_is_table : Sp := SpQ fun ds d => (∃ t : List TRow, GoodT t ∧ ds = [eT t] ∧ d = .bool (isTable t)) ∨ (ds = [.none] ∧ d = .bool false) ∨ ∃ es, ds = [.list es] ∧ d = .bool false
section
variable {P : Program} {w : World} {K : PySem.W.Frag} {mg : Str → Option Value} {base : Heap}
theorem still_rows (t : List TRow) : stills (t.map eRow) = true := stills_of fun r _ => by
  have h1 : ∀ e : List Str, stills (e.map PyData.str) = true := fun e => stills_of fun _ _ => rfl
  have h2 : stills (r.2.map fun e => eS e) = true := stills_of fun e _ => h1 e
  show (true && (stills (r.2.map fun e => eS e) && true)) = true
  rw [h2]; rfl
theorem cal_is_table (S : Src K mg "is_table" st_is_table ["value"]) (T : Txt K mg) (C_is_name : Cal P w K mg base CX0 1 "is_name" ["value"] sp_is_name) (C_is_entry : Cal P w K mg base CX0 1 "is_entry" ["value", "names"] sp_is_entry) : Cal P w K mg base CX0 2 "is_table" ["value"] sp_is_table := by
  have sc := sc_is_table
  refine S.cal (k := 1) sc (SpQ.len fun ds d h => by rcases h with ⟨s, _, rfl, _⟩ | ⟨rfl, _⟩ | ⟨_, rfl, _⟩ <;> rfl) (fun f cdv A outer s H vs Q E hr h => ⟨_, (pss_cons (ps_if (PW.pt (pw_or (pt_not (pt_val (pe_callB (k_isi (K := K) rfl) (by rfl) T.n_isinstance (by decide +kernel) (pa_cons (pv 0) (pa_cons (pe_bltn (v := .ty "tuple") (by rfl) T.n_tuple (by decide +kernel) rfl) pa_nil))))) (pw_or1 (pt_not (pt_val (pe_callB (k_all (K := K) rfl rfl) (by rfl) T.n_all (by decide +kernel) (pa_cons (pe_lc (own := [("row", 4)]) rfl sc.nd (k_pi_tup (K := K) rfl (pv 0)) (blkOk_by (by first | decide +kernel | kernel_rfl)) (fun _ _ _ _ _ => (pg_name (i := 4) sc.nd rfl (by first | exact Or.inl rfl | exact Or.inr rfl))) (fun _ _ _ _ _ => pts_nil) (fun _ _ _ _ _ => (pe_and (pe_callB (k_isi (K := K) rfl) (by rfl) T.n_isinstance (by decide +kernel) (pa_cons (pv 4) (pa_cons (pe_bltn (v := .ty "tuple") (by rfl) T.n_tuple (by decide +kernel) rfl) pa_nil))) (pe_one (pe_cmpR op_eq (pe_callB (k_len_seq (K := K) rfl) (by rfl) T.n_len PySem.boot_len (pa_cons (pv 4) pa_nil)) pe_int (nomark _)))))) pa_nil))))))) (pss_one (ps_ret pe_bl)) pss_nil)
  (pss_cons (ps_set (i := 1) sc.nd rfl (by first | exact Or.inl rfl | exact Or.inr rfl) (pe_lc (own := [("row", 4)]) rfl sc.nd (k_pi_tup (K := K) rfl (pv 0)) (blkOk_by (by first | decide +kernel | kernel_rfl)) (fun _ _ _ _ _ => (pg_name (i := 4) sc.nd rfl (by first | exact Or.inl rfl | exact Or.inr rfl))) (fun _ _ _ _ _ => pts_nil) (fun _ _ _ _ _ => (pe_ix (k_ix_tup (K := K) rfl) (pv 4) pe_int (fun _ _ => rfl)))))
  (pss_cons (ps_if (PW.pt (pw_or (pt_not (pt_val (pe_callB (k_all (K := K) rfl rfl) (by rfl) T.n_all (by decide +kernel) (pa_cons (pe_lc (own := [("name", 5)]) rfl sc.nd (k_pi_list (K := K) rfl (pv 1)) (blkOk_by (by first | decide +kernel | kernel_rfl)) (fun _ _ _ _ _ => (pg_name (i := 5) sc.nd rfl (by first | exact Or.inl rfl | exact Or.inr rfl))) (fun _ _ _ _ _ => pts_nil) (fun _ _ _ _ _ => (pe_cal C_is_name (hr.mono (by first | decide | omega)) rfl pass0 (pa_cons (pv 5) pa_nil)))) pa_nil)))) (pw_or1 (pt_not (pt_val (pe_callB (k_all (K := K) rfl rfl) (by rfl) T.n_all (by decide +kernel) (pa_cons (pe_lc (own := [("one", 6), ("other", 7)]) rfl sc.nd (k_pi_zipA (K := K) rfl (by rfl) T.n_zip (pa_cons (pv 1) (pa_cons (pe_slice (k_sl_list (K := K) rfl) (pv 1) (po_some pe_int) po_none) pa_nil))) (blkOk_by (by first | decide +kernel | kernel_rfl)) (fun _ _ _ _ _ => (k_pg_tup (K := K) (n := 2) rfl rfl (pgs_cons (pg_name (i := 6) sc.nd rfl (by first | exact Or.inl rfl | exact Or.inr rfl)) (pgs_cons (pg_name (i := 7) sc.nd rfl (by first | exact Or.inl rfl | exact Or.inr rfl)) pgs_nil)))) (fun _ _ _ _ _ => pts_nil) (fun _ _ _ _ _ => (pe_cmpR op_lt_str (pv 6) (pv 7) (nomark _)))) pa_nil))))))) (pss_one (ps_ret pe_bl)) pss_nil)
  (pss_cons (ps_for PassesOwn.never rfl (k_pi_tup (K := K) rfl (pv 0)) (k_pg_tup (K := K) (n := 2) rfl rfl (pgs_cons (pg_name (i := 2) sc.nd rfl (by first | exact Or.inl rfl | exact Or.inr rfl)) (pgs_cons (pg_name (i := 3) sc.nd rfl (by first | exact Or.inl rfl | exact Or.inr rfl)) pgs_nil))) (pss_one (ps_if (PW.pt (pw_or (pt_not (pt_val (pe_callB (k_isi (K := K) rfl) (by rfl) T.n_isinstance (by decide +kernel) (pa_cons (pv 3) (pa_cons (pe_bltn (v := .ty "tuple") (by rfl) T.n_tuple (by decide +kernel) rfl) pa_nil))))) (pw_or (pt_cmpR (k_eqD (K := K) rfl (hr.units)) (pv 3) (pe_tup pa_nil) (nomark _)) (pw_or1 (pt_not (pt_val (pe_callB (k_all (K := K) rfl rfl) (by rfl) T.n_all (by decide +kernel) (pa_cons (pe_lc (own := [("entry", 8)]) rfl sc.nd (k_pi_tup (K := K) rfl (pv 3)) (blkOk_by (by first | decide +kernel | kernel_rfl)) (fun _ _ _ _ _ => (pg_name (i := 8) sc.nd rfl (by first | exact Or.inl rfl | exact Or.inr rfl))) (fun _ _ _ _ _ => pts_nil) (fun _ _ _ _ _ => (pe_cal C_is_entry (hr.mono (by first | decide | omega)) rfl pass0 (pa_cons (pv 8) (pa_cons (pv 1) pa_nil))))) pa_nil)))))))) (pss_one (ps_ret pe_bl)) pss_nil)))
  (pss_one (ps_ret pe_bl)))))), ?_⟩)
  · obtain ⟨ds, d, i, hR, k⟩ := h
    have hR' : (∃ t : List TRow, GoodT t ∧ ds = [eT t] ∧ d = .bool (isTable t)) ∨ ∃ d0, kitB (tyN d0) "tuple" = some false ∧ ds = [d0] ∧ d = .bool false := by
      rcases hR with h | ⟨rfl, ed⟩ | ⟨es, rfl, ed⟩
      · exact .inl h
      · exact .inr ⟨.none, kt_NoneType_tuple, rfl, ed⟩
      · exact .inr ⟨.list es, kt_list_tuple, rfl, ed⟩
    rcases hR' with ⟨t, G, rfl, rfl⟩ | ⟨d0, hk, rfl, rfl⟩
    · obtain ⟨v, rfl, iv⟩ := i.one
      have hv : ∀ H1, Ex H H1 → EvD (tVar 0) (L2.start ["value", "names", "_", "cells", "row", "name", "one", "other", "entry"] [v]) H1 (eT t) := fun H1 x => ed_var rfl (iv.mono x)
      have ht := G.len
      have hv0 := hv H (Ex.refl H)
      refine q_when (et_or (et_not (et_DB (ed_isi hv0 kt_tuple_tuple))) (fun _ => et_not (et_DB (ed_all (bs := t.map fun _ => true) (EvD.is (en_lcM (l := t) (emb := eRow) (fun _ => .bool true) (wk_tup hv0) (by omega)
        (fun r hr x H1 e1 im => EvD.is (ed_and (ed_isi (ed_var rfl im) kt_tuple_tuple) (fun _ => ed_eqI (ed_lenT (ed_var rfl im)) (ed_i 2))) rfl) (fun _ _ => rfl)).toD (by rw [List.map_map]; rfl)))))) ?_ ?_
      · intro hb
        rw [all_true] at hb; cases hb
      · intro _ H1 e1
        have hv1 := hv H1 e1
        refine q_asgN (ds := (namesOf t).map .str) (EvN.is (en_lcM (l := t) (emb := eRow) (fun r => .str r.1) (wk_tup hv1) (by omega) (fun r hr x H2 e2 im => ed_ixT (ed_var rfl im) (ed_i 0) rfl) (fun _ _ => rfl)) (by unfold namesOf; rw [List.map_map]; rfl)) ?_
        intro p xs H2 np e2 g1 g2
        have im : Im H2 (.ref p) (.list ((namesOf t).map .str)) := .lst g1 g2
        have hn : ∀ H3, Ex H2 H3 → EvD (tVar 1) [some v, some (V.ref p), none, none, none, none, none, none, none] H3 (.list ((namesOf t).map .str)) := fun H3 x => ed_var rfl (im.mono x)
        have hn2 := hn H2 (Ex.refl H2)
        have hlens : ∀ s ∈ namesOf t, s.length ≤ 1000 := fun s hs => by
          obtain ⟨r, hr1, rfl⟩ := List.mem_map.mp hs
          exact (G.row r hr1).n
        have hln : (namesOf t).length = t.length := by simp [namesOf]
        have hz : EvDs (tCons (tVar 1) (tCons (tSl (rSlL K) (tVar 1) (tPart (tC (.int 1))) tNoPart) tNil)) [some v, some (V.ref p), none, none, none, none, none, none, none] H2 [.list ((namesOf t).map .str), .list (((namesOf t).drop 1).map .str)] :=
          ea1 hn2 (ea1 (EvD.is (en_slL hn2 (eo_i (ed_i 1)) eo_none).toD (by rw [show (1 : Int) = ((1 : Nat) : Int) from rfl, cutD_from, drop_strs])) ea0)
        refine q_when (σ := [some v, some (V.ref p), none, none, none, none, none, none, none]) (et_or (et_not (et_DB (ed_all (bs := (namesOf t).map isName) (EvD.is (en_lcM (l := namesOf t) (emb := .str) (fun s => .bool (isName s)) (wk_list hn2) (by omega)
          (fun s hs x H3 e3 ix => ed_callQ (ea1 (ed_var rfl ix) ea0) ⟨s, rfl, hlens s hs, rfl⟩) (fun _ _ => rfl)).toD (by rw [List.map_map]; rfl)))))
          (fun _ => et_not (et_DB (ed_all (bs := ((namesOf t).zip ((namesOf t).drop 1)).map fun p => ltS p.1 p.2) (EvD.is (en_lcP (l := (namesOf t).zip ((namesOf t).drop 1)) (e1 := fun p => .str p.1) (e2 := fun p => .str p.2) (fun p => .bool (ltS p.1 p.2)) (by rw [← pairs_map]; exact wk_zipL hz) (by rw [List.length_zip]; omega) (fun d hd x y H2 e2 ix iy => ed_ltS (ed_var rfl ix) (ed_var rfl iy)) (fun _ _ => rfl)).toD (by rw [List.map_map]; rfl)))))) ?_ ?_
        · intro hb H3 e3
          refine s_retD (ed_b false) fun v H4 e4 iv => k v H4 (((e1.trans e2).trans e3).trans e4) ?_
          have : isTable t = false := by
            unfold isTable asc
            rw [List.all_map, List.all_map] at hb
            have hb' : (!(namesOf t).all isName || !((namesOf t).zip ((namesOf t).drop 1)).all fun p => ltS p.1 p.2) = true := by simpa using hb
            rw [hb']; rfl
          rw [this]; exact iv
        · intro hb H3 e3
          have hb' : (!(namesOf t).all isName || !asc (namesOf t)) = false := by
            unfold asc
            rw [List.all_map, List.all_map] at hb
            simpa using hb
          have hT : isTable t = t.all (rowOk (namesOf t)) := by unfold isTable; rw [hb']; rfl
          rw [hT] at k
          have e13 : Ex H H3 := (e1.trans e2).trans e3
          refine q_forM [] (wm_tup (EvD.mono (e2.trans e3) hv1 |> fun _ => (ed_var rfl (iv.mono e13) : EvD (tVar 0) [some v, some (V.ref p), none, none, none, none, none, none, none] H3 (eT t))) (still_rows t))
            (fun i σ' H' => (∃ a b, σ' = [some v, some (V.ref p), a, b, none, none, none, none, none]) ∧ Ex H3 H' ∧ (t.take i).all (rowOk (namesOf t)) = true)
            (fun H4 e4 => ⟨⟨none, none, rfl⟩, e4, rfl⟩) (fun i σ' H4 H5 p e => ⟨p.1, p.2.1.trans e, p.2.2⟩) ?_ ?_
          · rintro i d x σ' H4 H5 hd e45 ix ⟨⟨a, b, rfl⟩, e35, hall⟩
            rw [List.getElem?_map] at hd
            obtain ⟨r, hr1, rfl⟩ : ∃ r, t[i]? = some r ∧ eRow r = d := by
              cases e : t[i]? with
              | none => rw [e] at hd; cases hd
              | some r => rw [e] at hd; exact ⟨r, rfl, Option.some.inj hd⟩
            have hrt : r ∈ t := List.mem_of_getElem? hr1
            have GR := G.row r hrt
            refine g_pair ix fun na ce i1 i2 => ?_
            show tIfS _ _ _ _ [some v, some (V.ref p), some na, some ce, none, none, none, none, none] H5
            have hce : ∀ H6, Ex H5 H6 → EvD (tVar 3) [some v, some (V.ref p), some na, some ce, none, none, none, none, none] H6 (eC r.2) := fun H6 x => ed_var rfl (i2.mono x)
            have hce0 := hce H5 (Ex.refl H5)
            have imn := im.mono (e3.trans e35)
            refine s_when (b := r.2.isEmpty || !(r.2.all fun e => isEntry e (namesOf t))) (et_is (et_or (et_not (et_DB (ed_isi hce0 kt_tuple_tuple))) (fun _ => et_or (et_D (ed_eqD hce0 (ed_tup ea0 (by decide)) (shaped_rows fun e he => (GR.e e he).2) shaped_nil)) (fun _ => et_not (et_DB (ed_all (bs := r.2.map fun e => isEntry e (namesOf t)) (EvD.is (en_lcM (l := r.2) (emb := fun e => eS e) (fun e => .bool (isEntry e (namesOf t))) (wk_tup hce0) (by have := GR.c; omega)
              (fun e he x H6 e6 ix => ed_callQ (ea1 (ed_var rfl ix) (ea1 (ed_var rfl (imn.mono e6)) ea0)) ⟨e, namesOf t, rfl, (GR.e e he).1, by omega, (GR.e e he).2, rfl⟩) (fun _ _ => rfl)).toD (by rw [List.map_map]; rfl))))))) (by rw [eqv_nil, List.all_map]; cases r.2 <;> simp [Function.comp_def])) ?_ ?_
            · intro hb2 H6 e6
              refine s_retD (ed_b false) fun v H7 e7 iv => k v H7 ((e13.trans e35).trans (e6.trans e7)) ?_
              have : t.all (rowOk (namesOf t)) = false := by
                rw [List.all_eq_false]
                exact ⟨r, hrt, by unfold rowOk; rw [hb2]; decide⟩
              rw [this]; exact iv
            · intro hb2 H6 e6
              refine ⟨⟨⟨some na, some ce, rfl⟩, e35.trans e6, ?_⟩, ExM.of (e45.trans e6)⟩
              rw [take_more hr1, List.all_append, hall, List.all_cons, List.all_nil]
              unfold rowOk; rw [hb2]; rfl
          · rintro σ' H' ⟨_, e35, hall⟩
            rw [List.length_map, List.take_length] at hall
            refine s_retD (ed_b true) fun v H7 e7 iv => k v H7 ((e13.trans e35).trans e7) ?_
            rw [hall]; exact iv
    · obtain ⟨v, rfl, iv⟩ := i.one
      refine q_when (et_or (b := true) (et_not (et_DB (ed_isi (ed_var rfl iv) hk))) (fun z => by cases z)) ?_ ?_
      · intro hb H1 e1
        exact s_retD (ed_b false) fun v H2 e2 iv => k v H2 (e1.trans e2) iv
      · intro hb; cases hb
end
end K35
set_option Elab.async false
set_option linter.all false
set_option maxRecDepth 100000
set_option maxHeartbeats 4000000
namespace K35
open PySem PySem.Spec PyProof.Rows L2 Evl Pd
/-- what is_table says of data -/
def TB (d : PyData) (b : Bool) : Prop := (∃ t : List TRow, GoodT t ∧ d = eT t ∧ b = isTable t) ∨ ((d = .none ∨ ∃ es, d = .list es) ∧ b = false)
theorem TB.r {d : PyData} {b : Bool} (h : TB d b) : (∃ t : List TRow, GoodT t ∧ [d] = [eT t] ∧ PyData.bool b = .bool (isTable t)) ∨ ([d] = [PyData.none] ∧ PyData.bool b = .bool false) ∨ ∃ es, [d] = [PyData.list es] ∧ PyData.bool b = .bool false := by
  rcases h with ⟨t, G, rfl, rfl⟩ | ⟨rfl | ⟨es, rfl⟩, rfl⟩
  · exact .inl ⟨t, G, rfl, rfl⟩
  · exact .inr (.inl ⟨rfl, rfl⟩)
  · exact .inr (.inr ⟨es, rfl, rfl⟩)
def sp_check_table (CK : Addr) : Sp := fun vs H Q E => ∃ d b v, vs = [v] ∧ Im H v d ∧ TB d b ∧ (b = true → ∀ H', Ex H H' → Q .non H') ∧ (b = false → ∀ H', Ex H H' → E (.ref CK) none H')
section
variable {P : Program} {w : World} {K : PySem.W.Frag} {mg : Str → Option Value} {base : Heap} {CK : Addr}
theorem cal_check_table (S : Src K mg "check_table" st_check_table ["table"]) (T : Txt K mg) (XK : XCls K mg "BadKinds" CK) (C_is_table : Cal P w K mg base CX0 2 "is_table" ["value"] sp_is_table) : Cal P w K mg base (L2.CX P w) 3 "check_table" ["table"] (sp_check_table CK) := by
  have sc := sc_check_table
  refine S.calX (k := 2) sc (fun vs H Q E h => by obtain ⟨_, _, _, rfl, _⟩ := h; rfl) (fun f cdv A outer s H vs Q E hr h => ⟨_, (pss_one (ps_if (pt_not (pt_val (pe_cal C_is_table (hr.mono (by first | decide | omega)) rfl pass0 (pa_cons (pv 0) pa_nil)))) (pss_one (ps_raise rfl (takes_of rfl rfl rfl rfl) (pmk_x XK rfl))) pss_nil)), ?_⟩)
  obtain ⟨d, b, v, rfl, iv, tb, k1, k2⟩ := h
  refine s_when (et_not (et_DB (ed_callQ (ea1 (ed_var rfl iv) ea0) tb.r))) ?_ ?_
  · intro hb H1 e1
    exact k2 (by simpa using hb) H1 e1
  · intro hb H1 e1
    exact k1 (by simpa using hb) H1 e1
end
end K35
set_option Elab.async false
set_option linter.all false
set_option maxRecDepth 100000
set_option maxHeartbeats 4000000
namespace K35
open PySem PySem.Spec PyProof.Rows L2 Evl Pd
theorem map_inv {α β : Type} {f : α → β} {l : List α} {i : Nat} {d : β} (h : (l.map f)[i]? = some d) : ∃ a, l[i]? = some a ∧ f a = d := by
  rw [List.getElem?_map] at h
  cases e : l[i]? with
  | none => rw [e] at h; cases h
  | some r => rw [e] at h; exact ⟨r, rfl, Option.some.inj h⟩
theorem still_eS (e : List Str) : still (eS e) = true := stills_of fun _ _ => rfl
theorem find_at {α : Type} {p : α → Bool} {l : List α} {i : Nat} {x : α} (h : l[i]? = some x) (h0 : ∀ y ∈ l.take i, p y = false) (hx : p x = true) : l.find? p = some x := by
  have hi := (List.getElem?_eq_some_iff.mp h).1
  have e : l = l.take i ++ x :: l.drop (i + 1) := by
    have := List.take_append_drop i l
    rw [List.drop_eq_getElem_cons hi] at this
    rw [(List.getElem?_eq_some_iff.mp h).2] at this
    exact this.symm
  rw [e, List.find?_append]
  have : (l.take i).find? p = none := List.find?_eq_none.mpr fun y hy => by rw [h0 y hy]; decide
  rw [this, Option.none_or, List.find?_cons_of_pos hx]
theorem find_no {α : Type} {p : α → Bool} {l : List α} (h0 : ∀ y ∈ l, p y = false) : l.find? p = none := List.find?_eq_none.mpr fun y hy => by rw [h0 y hy]; decide
/-- the cells of the kind of that name -/
def cellsOf (tb : List TRow) (n : Str) : Option (List (List Str)) := (tb.find? fun r => decide (r.1 = n)).map (·.2)
def eCO : Option (List (List Str)) → PyData
  | none => .none
  | some c => eC c
def firstName (e : List Str) : Option Str := e.find? fun w => !plain w
def eSO : Option Str → PyData
  | none => .none
  | some s => .str s
def sp_cells_in : Sp := SpQ fun ds d => ∃ (tb : List TRow) (n : Str), ds = [eT tb, .str n] ∧ tb.length ≤ 1000 ∧ d = eCO (cellsOf tb n)
def sp_name_in : Sp := SpQ fun ds d => ∃ e : List Str, ds = [eS e] ∧ d = eSO (firstName e)
section
variable {P : Program} {w : World} {K : PySem.W.Frag} {mg : Str → Option Value} {base : Heap}
theorem cal_cells_in (S : Src K mg "cells_in" st_cells_in ["table", "name"]) (T : Txt K mg) : Cal P w K mg base CX0 1 "cells_in" ["table", "name"] sp_cells_in := by
  have sc := sc_cells_in
  refine S.cal (k := 0) sc (SpQ.len fun ds d h => by obtain ⟨s, n, rfl, _⟩ := h; rfl) (fun f cdv A outer s H vs Q E hr h => ⟨_, (pss_cons (ps_for PassesOwn.never rfl (k_pi_tup (K := K) rfl (pv 0)) (k_pg_tup (K := K) (n := 2) rfl rfl (pgs_cons (pg_name (i := 2) sc.nd rfl (by first | exact Or.inl rfl | exact Or.inr rfl)) (pgs_cons (pg_name (i := 3) sc.nd rfl (by first | exact Or.inl rfl | exact Or.inr rfl)) pgs_nil))) (pss_one (ps_if (pt_cmpR op_eq (pv 2) (pv 1) (nomark _)) (pss_one (ps_ret (pv 3))) pss_nil)))
  (pss_one (ps_ret pe_non))), ?_⟩)
  obtain ⟨ds, d, i, ⟨tb, n, rfl, hl, rfl⟩, k⟩ := h
  obtain ⟨v, u, rfl, iv, iu⟩ := i.two
  have eu := iu.s
  subst eu
  show tSeq (tFor _ _ _) _ _ [some v, some (.str n), none, none] H
  refine q_forM [] (wm_tup (ed_var rfl iv) (still_rows tb)) (fun i σ' H' => (∃ a b, σ' = [some v, some (.str n), a, b]) ∧ Ex H H' ∧ ∀ r ∈ tb.take i, decide (r.1 = n) = false)
    (fun H1 e1 => ⟨⟨none, none, rfl⟩, e1, fun r hr => by simp at hr⟩) (fun i σ' H1 H2 q e => ⟨q.1, q.2.1.trans e, q.2.2⟩) ?_ ?_
  · rintro i d x σ' H3 H4 hd e34 ix ⟨⟨a, b, rfl⟩, e4, hno⟩
    obtain ⟨r, hr1, rfl⟩ := map_inv hd
    refine g_pair ix fun na ce i1 i2 => ?_
    have en := i1.s
    subst en
    show tIfS _ _ _ _ [some v, some (.str n), some (.str r.1), some ce] H4
    refine s_when (et_D (ed_eqS (ed_var rfl (.str _)) (ed_var rfl (.str _)))) ?_ ?_
    · intro hb H5 e5
      refine s_retD (ed_var rfl (i2.mono e5)) fun v1 H6 e6 iv1 => k v1 H6 (e4.trans (e5.trans e6)) ?_
      have : cellsOf tb n = some r.2 := by
        unfold cellsOf
        rw [find_at hr1 hno hb]; rfl
      rw [this]; exact iv1
    · intro hb H5 e5
      refine ⟨⟨⟨_, _, rfl⟩, e4.trans e5, fun y hy => ?_⟩, ExM.of (e34.trans e5)⟩
      rw [take_more hr1] at hy
      rcases List.mem_append.mp hy with hy | hy
      · exact hno y hy
      · have : y = r := by simpa using hy
        rw [this]; exact hb
  · rintro σ' H' ⟨_, e4, hno⟩
    refine s_retD ed_n fun v1 H6 e6 iv1 => k v1 H6 (e4.trans e6) ?_
    rw [List.length_map, List.take_length] at hno
    have : cellsOf tb n = none := by
      unfold cellsOf
      rw [find_no hno]; rfl
    rw [this]; exact iv1
theorem cal_name_in (S : Src K mg "name_in" st_name_in ["entry"]) (T : Txt K mg) : Cal P w K mg base CX0 1 "name_in" ["entry"] sp_name_in := by
  have sc := sc_name_in
  refine S.cal (k := 0) sc (SpQ.len fun ds d h => by obtain ⟨s, rfl, _⟩ := h; rfl) (fun f cdv A outer s H vs Q E hr h => ⟨_, (pss_cons (ps_for PassesOwn.never rfl (k_pi_tup (K := K) rfl (pv 0)) (pg_name (i := 1) sc.nd rfl (by first | exact Or.inl rfl | exact Or.inr rfl)) (pss_one (ps_if (pt_cmpR (k_notIn_seq (K := K) rfl) (pv 1) (pe_tup (pa_cons (pe_gl rfl T.c_INTEGER) (pa_cons (pe_gl rfl T.c_NONE) pa_nil))) (by rfl)) (pss_one (ps_ret (pv 1))) pss_nil)))
  (pss_one (ps_ret pe_non))), ?_⟩)
  obtain ⟨ds, d, i, ⟨e, rfl, rfl⟩, k⟩ := h
  obtain ⟨v, rfl, iv⟩ := i.one
  show tSeq (tFor _ _ _) _ _ [some v, none] H
  refine q_forM [] (wm_tup (ed_var rfl iv) (stills_of fun _ _ => rfl)) (fun i σ' H' => (∃ a, σ' = [some v, a]) ∧ Ex H H' ∧ ∀ r ∈ e.take i, (!plain r) = false)
    (fun H1 e1 => ⟨⟨none, rfl⟩, e1, fun r hr => by simp at hr⟩) (fun i σ' H1 H2 q e => ⟨q.1, q.2.1.trans e, q.2.2⟩) ?_ ?_
  · rintro i d x σ' H3 H4 hd e34 ix ⟨⟨a, rfl⟩, e4, hno⟩
    obtain ⟨s1, hs1, rfl⟩ := map_inv hd
    have ex := ix.s
    subst ex
    show tIfS _ _ _ _ [some v, some (.str s1)] H4
    refine s_when (b := !plain s1) (et_D (ed_niT (ss := ["integer", "none"]) (ed_var rfl (.str s1)) (ed_tup (ea1 (ed_s _) (ea1 (ed_s _) ea0)) (by decide)))) ?_ ?_
    · intro hb H5 e5
      refine s_retD (ed_var rfl (.str s1)) fun v1 H6 e6 iv1 => k v1 H6 (e4.trans (e5.trans e6)) ?_
      have : firstName e = some s1 := find_at hs1 hno hb
      rw [this]; exact iv1
    · intro hb H5 e5
      refine ⟨⟨⟨_, rfl⟩, e4.trans e5, fun y hy => ?_⟩, ExM.of (e34.trans e5)⟩
      rw [take_more hs1] at hy
      rcases List.mem_append.mp hy with hy | hy
      · exact hno y hy
      · have : y = s1 := by simpa using hy
        rw [this]; exact hb
  · rintro σ' H' ⟨_, e4, hno⟩
    refine s_retD ed_n fun v1 H6 e6 iv1 => k v1 H6 (e4.trans e6) ?_
    rw [List.length_map, List.take_length] at hno
    have : firstName e = none := find_no hno
    rw [this]; exact iv1
end
end K35
set_option Elab.async false
set_option linter.all false
set_option maxRecDepth 100000
set_option maxHeartbeats 4000000
namespace K35
open PySem PySem.Spec PyProof.Rows L2 Evl Pd
/-- what a Told holds: table, roots, registers -/
abbrev TS3 : Type := List TRow × List Str × List Str
def TO (C : Addr) (x : TS3) (a : Addr) (H : Hp) : Prop := ∃ dx v1 v2 v3, H a = some (.ins C dx [("table", v1), ("roots", v2), ("registers", v3)]) ∧ Im H v1 (eT x.1) ∧ Im H v2 (eS x.2.1) ∧ Im H v3 (eS x.2.2)
theorem TO.mono {C : Addr} {x : TS3} {a : Addr} {H H' : Hp} (e : Ex H H') (h : TO C x a H) : TO C x a H' := by
  obtain ⟨dx, v1, v2, v3, h1, h2, h3, h4⟩ := h
  exact ⟨dx, v1, v2, v3, e _ _ h1, h2.mono e, h3.mono e, h4.mono e⟩
structure TTxt (K : PySem.W.Frag) (C : Addr) : Prop where
  cl : Cls K C
  nT : NoAttr K C "table"
  nR : NoAttr K C "roots"
  nG : NoAttr K C "registers"
def eEnt : Option (List Str) → PyData
  | none => .none
  | some e => eS e
structure Gd (x : TS3) : Prop where
  len : x.1.length ≤ 1000
  all : ∀ n ∈ x.2.1 ++ x.2.2, (cellsOf x.1 n).isSome = true
  few : ∀ n c, cellsOf x.1 n = some c → c.length ≤ 1000
/-- the cells that stand at a register -/
def At (x : TS3) (p : Nat) (c : List (List Str)) : Prop := ∃ g, x.2.2[p]? = some g ∧ cellsOf x.1 g = some c
def fits (x : TS3) (ent : Option (List Str)) (q : Str) : Bool := match ent with | none => false | some e => (match firstName e with | none => true | some n => decide (n = q))
def keepsN (ent : Option (List Str)) (q : Str) : Bool := match ent with | none => false | some e => decide (("none" : Str) ∈ e) && (match firstName e with | none => false | some n => decide (n = q))
def R_entry (x : TS3) (ds : List PyData) (d : PyData) : Prop := ∃ (p k : Nat) (c : List (List Str)), ds = [.int (p : Nat), .int (k : Nat)] ∧ Gd x ∧ At x p c ∧ d = eEnt c[k]?
def R_put (x : TS3) (ds : List PyData) (d : PyData) : Prop := ∃ (p s : Nat) (c : List (List Str)), ds = [.int (p : Nat), .int (s : Nat)] ∧ Gd x ∧ At x p c ∧ d = .bool (decide (c.length = s) && c.all fun e => decide (("none" : Str) ∈ e))
def R_set (x : TS3) (ds : List PyData) (d : PyData) : Prop := ∃ (p k : Nat) (c : List (List Str)), ds = [.int (p : Nat), .int (k : Nat)] ∧ Gd x ∧ At x p c ∧ d = .bool (match c[k]? with | none => false | some e => decide (("integer" : Str) ∈ e))
def R_load (x : TS3) (ds : List PyData) (d : PyData) : Prop := ∃ (q p k : Nat) (c : List (List Str)) (g : Str), ds = [.int (q : Nat), .int (p : Nat), .int (k : Nat)] ∧ Gd x ∧ At x p c ∧ x.2.2[q]? = some g ∧ d = .bool (fits x c[k]? g)
def R_store (x : TS3) (ds : List PyData) (d : PyData) : Prop := ∃ (p k q : Nat) (c : List (List Str)) (g : Str), ds = [.int (p : Nat), .int (k : Nat), .int (q : Nat)] ∧ Gd x ∧ At x p c ∧ x.2.2[q]? = some g ∧ d = .bool (keepsN c[k]? g)
theorem n_rt : ¬ (("table" : Str) = "roots") := by decide +kernel
theorem n_gt : ¬ (("table" : Str) = "registers") := by decide +kernel
theorem n_gr : ¬ (("roots" : Str) = "registers") := by decide +kernel
theorem lk_T {v1 v2 v3 : V} : ([("table", v1), ("roots", v2), ("registers", v3)] : List (Str × V)).lookup ("table" : Str) = some v1 := by simp [List.lookup]
theorem lk_R {v1 v2 v3 : V} : ([("table", v1), ("roots", v2), ("registers", v3)] : List (Str × V)).lookup ("roots" : Str) = some v2 := by
  have h1 : (("roots" : Str) == "table") = false := by decide +kernel
  simp [List.lookup, h1]
theorem lk_G {v1 v2 v3 : V} : ([("table", v1), ("roots", v2), ("registers", v3)] : List (Str × V)).lookup ("registers" : Str) = some v3 := by
  have h1 : (("registers" : Str) == "table") = false := by decide +kernel
  have h2 : (("registers" : Str) == "roots") = false := by decide +kernel
  simp [List.lookup, h1, h2]
theorem lk_M {v1 v2 v3 : V} {m : Str} (h : (m == ("registers" : Str) || (m == ("roots" : Str) || m == ("table" : Str))) = false) : ([("table", v1), ("roots", v2), ("registers", v3)] : List (Str × V)).lookup m = none := by
  simp only [Bool.or_eq_false_iff] at h
  simp [List.lookup, h.1, h.2.1, h.2.2]
theorem put3 {v1 v2 v3 : V} : putF "registers" v3 (putF "roots" v2 (putF "table" v1 [])) = ([("table", v1), ("roots", v2), ("registers", v3)] : List (Str × V)) := by
  simp [putF, n_rt, n_gt, n_gr]
section
variable {P : Program} {w : World} {K : PySem.W.Frag} {mg : Str → Option Value} {base : Heap} {C : Addr}
variable {σ : L2.St} {H : Hp} {a : Addr} {x : TS3}
theorem ed_tab (TT : TTxt K C) {ta : TE} (h : Ev ta σ H (.ref a)) (o : TO C x a H) : EvD (tFld K ta "table") σ H (eT x.1) := by
  obtain ⟨dx, v1, v2, v3, h1, h2, h3, h4⟩ := o
  exact ed_fld h h1 TT.cl TT.nT lk_T h2
theorem ed_roo (TT : TTxt K C) {ta : TE} (h : Ev ta σ H (.ref a)) (o : TO C x a H) : EvD (tFld K ta "roots") σ H (eS x.2.1) := by
  obtain ⟨dx, v1, v2, v3, h1, h2, h3, h4⟩ := o
  exact ed_fld h h1 TT.cl TT.nR lk_R h3
theorem ed_reg (TT : TTxt K C) {ta : TE} (h : Ev ta σ H (.ref a)) (o : TO C x a H) : EvD (tFld K ta "registers") σ H (eS x.2.2) := by
  obtain ⟨dx, v1, v2, v3, h1, h2, h3, h4⟩ := o
  exact ed_fld h h1 TT.cl TT.nG lk_G h4
theorem ed_regAt (TT : TTxt K C) {ta tb : TE} {p : Nat} {g : Str} (h : Ev ta σ H (.ref a)) (o : TO C x a H) (hb : EvD tb σ H (.int (p : Nat))) (hg : x.2.2[p]? = some g) : EvD (tOp (rIxT K) (tFld K ta "registers") tb) σ H (.str g) :=
  ed_ixT (ed_reg TT h o) hb (atI_nat (by rw [List.getElem?_map, hg]; rfl))
theorem ed_rooAt (TT : TTxt K C) {ta tb : TE} {p : Nat} {g : Str} (h : Ev ta σ H (.ref a)) (o : TO C x a H) (hb : EvD tb σ H (.int (p : Nat))) (hg : x.2.1[p]? = some g) : EvD (tOp (rIxT K) (tFld K ta "roots") tb) σ H (.str g) :=
  ed_ixT (ed_roo TT h o) hb (atI_nat (by rw [List.getElem?_map, hg]; rfl))
theorem ed_M {R : TS3 → List PyData → PyData → Prop} {E : XK} {ta : TE} {tar : TA} {m : Str} {ds : List PyData} {d : PyData} (ho : Ev ta σ H (.ref a)) (o : TO C x a H) (hm : (m == ("registers" : Str) || (m == ("roots" : Str) || m == ("table" : Str))) = false) (hd : EvDs tar σ H ds) (hR : R x ds d) :
    EvD (tMeth C m (SpS (TO C) R) [] E ta tar) σ H d := by
  obtain ⟨dx, v1, v2, v3, h1, h2, h3, h4⟩ := id o
  exact ed_meth ho h1 (lk_M hm) o (fun H1 e h => h.mono e) hd hR
theorem SpS.len {α : Type} {S : α → Addr → Hp → Prop} {R : α → List PyData → PyData → Prop} {n : Nat} (h : ∀ x ds d, R x ds d → ds.length = n) : ∀ vs H Q E, SpS S R vs H Q E → vs.length = n + 1 := fun vs H Q E ⟨x, a, ws, ds, d, e, _, i, r, _⟩ => by rw [e, List.length_cons, i.length, h x ds d r]
theorem cal_entry (S : SrcM K C "entry" "Told.entry" st_Told_entry ["self", "place", "k"]) (T : Txt K mg) (TT : TTxt K C) (C_cells_in : Cal P w K mg base CX0 1 "cells_in" ["table", "name"] sp_cells_in) : CalM P w K mg base CX0 2 C "entry" ["self", "place", "k"] (SpS (TO C) R_entry) := by
  have sc := sc_Told_entry
  refine S.cal (k := 1) sc (SpS.len fun x ds d h => by obtain ⟨_, _, _, rfl, _⟩ := h; rfl) (fun f cdv A outer s H vs Q E hr h => ⟨_, (pss_cons (ps_set (i := 3) sc.nd rfl (by first | exact Or.inl rfl | exact Or.inr rfl) (pe_cal C_cells_in (hr.mono (by first | decide | omega)) rfl pass0 (pa_cons (k_fld (K := K) rfl (pv 0) rfl) (pa_cons (pe_ix (k_ix_tup (K := K) rfl) (k_fld (K := K) rfl (pv 0) rfl) (pv 1) (fun _ _ => rfl)) pa_nil))))
  (pss_one (ps_ret (pe_ifExp (pt_cmpR op_lt (pv 2) (pe_callB (k_len_seq (K := K) rfl) (by rfl) T.n_len PySem.boot_len (pa_cons (pv 3) pa_nil)) (nomark _)) (pe_ix (k_ix_tup (K := K) rfl) (pv 3) (pv 2) (fun _ _ => rfl)) pe_non)))), ?_⟩)
  obtain ⟨x, a, ws, ds, d, rfl, o, i, ⟨p, k, c, rfl, G, ⟨g, hg, hc⟩, rfl⟩, kk⟩ := h
  obtain ⟨v, u, rfl, iv, iu⟩ := i.two
  have ev := iv.i
  have eu := iu.i
  subst ev eu
  have hl := G.few g c hc
  show tSeq _ _ _ [some (.ref a), some (.int (p : Nat)), some (.int (k : Nat)), none] H
  refine q_asgD (d := eC c) (ed_callQ (ea1 (ed_tab TT (ev_var rfl) o) (ea1 (ed_regAt TT (ev_var rfl) o (ed_var rfl (.int _)) hg) ea0)) ⟨x.1, g, rfl, G.len, by rw [hc]; rfl⟩) ?_
  intro cv H1 e1 icv
  show tRet _ _ [some (.ref a), some (.int (p : Nat)), some (.int (k : Nat)), some cv] H1
  refine s_retD (ed_if (b := decide (k < c.length)) (et_D (EvD.is (ed_B0 (g := fun i j => decide (i < j)) (ed_var rfl (.int _)) (ed_lenT (ed_var rfl icv))) (by rw [List.length_map]; congr 1; simp))) (fun h => ?_) (fun h => ?_)) fun v1 H2 e2 iv1 => kk v1 H2 (e1.trans e2) iv1
  · have hk : k < c.length := of_decide_eq_true h
    rw [List.getElem?_eq_getElem hk]
    exact ed_ixT (ed_var rfl icv) (ed_var rfl (.int _)) (atI_nat (by rw [List.getElem?_map, List.getElem?_eq_getElem hk]; rfl))
  · have hk : ¬ k < c.length := of_decide_eq_false h
    rw [List.getElem?_eq_none (by omega)]
    exact ed_n
theorem cal_may_put (S : SrcM K C "may_put" "Told.may_put" st_Told_may_put ["self", "place", "size"]) (T : Txt K mg) (TT : TTxt K C) (C_cells_in : Cal P w K mg base CX0 1 "cells_in" ["table", "name"] sp_cells_in) : CalM P w K mg base CX0 2 C "may_put" ["self", "place", "size"] (SpS (TO C) R_put) := by
  have sc := sc_Told_may_put
  refine S.cal (k := 1) sc (SpS.len fun x ds d h => by obtain ⟨_, _, _, rfl, _⟩ := h; rfl) (fun f cdv A outer s H vs Q E hr h => ⟨_, (pss_cons (ps_set (i := 3) sc.nd rfl (by first | exact Or.inl rfl | exact Or.inr rfl) (pe_cal C_cells_in (hr.mono (by first | decide | omega)) rfl pass0 (pa_cons (k_fld (K := K) rfl (pv 0) rfl) (pa_cons (pe_ix (k_ix_tup (K := K) rfl) (k_fld (K := K) rfl (pv 0) rfl) (pv 1) (fun _ _ => rfl)) pa_nil))))
  (pss_one (ps_ret (pe_and (pe_cmpR op_eq (pe_callB (k_len_seq (K := K) rfl) (by rfl) T.n_len PySem.boot_len (pa_cons (pv 3) pa_nil)) (pv 2) (nomark _)) (pe_one (pe_callB (k_all (K := K) rfl rfl) (by rfl) T.n_all (by decide +kernel) (pa_cons (pe_lc (own := [("entry", 4)]) rfl sc.nd (k_pi_tup (K := K) rfl (pv 3)) (blkOk_by (by first | decide +kernel | kernel_rfl)) (fun _ _ _ _ _ => (pg_name (i := 4) sc.nd rfl (by first | exact Or.inl rfl | exact Or.inr rfl))) (fun _ _ _ _ _ => pts_nil) (fun _ _ _ _ _ => (pe_cmpR (k_in_seq (K := K) rfl) (pe_gl rfl T.c_NONE) (pv 4) (by rfl)))) pa_nil))))))), ?_⟩)
  obtain ⟨x, a, ws, ds, d, rfl, o, i, ⟨p, k, c, rfl, G, ⟨g, hg, hc⟩, rfl⟩, kk⟩ := h
  obtain ⟨v, u, rfl, iv, iu⟩ := i.two
  have ev := iv.i
  have eu := iu.i
  subst ev eu
  have hl := G.few g c hc
  show tSeq _ _ _ [some (.ref a), some (.int (p : Nat)), some (.int (k : Nat)), none, none] H
  refine q_asgD (d := eC c) (ed_callQ (ea1 (ed_tab TT (ev_var rfl) o) (ea1 (ed_regAt TT (ev_var rfl) o (ed_var rfl (.int _)) hg) ea0)) ⟨x.1, g, rfl, G.len, by rw [hc]; rfl⟩) ?_
  intro cv H1 e1 icv
  show tRet _ _ [some (.ref a), some (.int (p : Nat)), some (.int (k : Nat)), some cv, none] H1
  refine s_retD (ed_and (EvD.is (ed_eqI (ed_lenT (ed_var rfl icv)) (ed_var rfl (.int _))) (by rw [List.length_map]; exact congrArg PyData.bool (decide_eq_decide.mpr (by omega)))) (fun _ => EvD.is (ed_all (bs := c.map fun e => decide (("none" : Str) ∈ e)) (EvD.is (en_lcM (l := c) (emb := fun e => eS e) (fun e => .bool (decide (("none" : Str) ∈ e))) (wk_tup (ed_var rfl icv)) (by omega) (fun e he z H3 e3 iz => ed_inT (ed_s _) (ed_var rfl iz)) (fun _ _ => rfl)).toD (by rw [List.map_map]; rfl))) (by rw [List.all_map]; rfl))) fun v1 H2 e2 iv1 => kk v1 H2 (e1.trans e2) iv1
theorem isN_ent (o : Option (List Str)) : (match eEnt o with | .none => false | _ => true) = o.isSome := by cases o <;> rfl
theorem cal_may_set (S : SrcM K C "may_set" "Told.may_set" st_Told_may_set ["self", "place", "k"]) (T : Txt K mg) (TT : TTxt K C) (M_entry : CalM P w K mg base CX0 2 C "entry" ["self", "place", "k"] (SpS (TO C) R_entry)) : CalM P w K mg base CX0 3 C "may_set" ["self", "place", "k"] (SpS (TO C) R_set) := by
  have sc := sc_Told_may_set
  refine S.cal (k := 2) sc (SpS.len fun x ds d h => by obtain ⟨_, _, _, rfl, _⟩ := h; rfl) (fun f cdv A outer s H vs Q E hr h => ⟨_, (pss_cons (ps_set (i := 3) sc.nd rfl (by first | exact Or.inl rfl | exact Or.inr rfl) (pe_calM M_entry TT.cl (hr.mono (by first | decide | omega)) pass0 (pv 0) (pa_cons (pv 1) (pa_cons (pv 2) pa_nil))))
  (pss_one (ps_ret (pe_and (pe_cmpR op_notN (pv 3) pe_non (nomark _)) (pe_one (pe_cmpR (k_in_seq (K := K) rfl) (pe_gl rfl T.c_INTEGER) (pv 3) (by rfl))))))), ?_⟩)
  obtain ⟨x, a, ws, ds, d, rfl, o, i, ⟨p, k, c, rfl, G, A0, rfl⟩, kk⟩ := h
  obtain ⟨v, u, rfl, iv, iu⟩ := i.two
  have ev := iv.i
  have eu := iu.i
  subst ev eu
  show tSeq _ _ _ [some (.ref a), some (.int (p : Nat)), some (.int (k : Nat)), none] H
  refine q_asgD (d := eEnt c[k]?) (ed_M (ev_var rfl) o (by decide +kernel) (ea1 (ed_var rfl (.int _)) (ea1 (ed_var rfl (.int _)) ea0)) ⟨p, k, c, rfl, G, A0, rfl⟩) ?_
  intro cv H1 e1 icv
  show tRet _ _ [some (.ref a), some (.int (p : Nat)), some (.int (k : Nat)), some cv] H1
  refine s_retD (d := .bool (match c[k]? with | none => false | some e => decide (("integer" : Str) ∈ e))) ?_ fun v1 H2 e2 iv1 => kk v1 H2 (e1.trans e2) iv1
  cases hc : c[k]? with
  | none =>
    rw [hc] at icv
    exact ed_and (b := false) (EvD.is (ed_notN (ed_var rfl icv)) rfl) (fun z => by cases z)
  | some e =>
    rw [hc] at icv
    exact ed_and (a := true) (EvD.is (ed_notN (ed_var rfl icv)) rfl) (fun _ => ed_inT (ed_s _) (ed_var rfl icv))
def vO : Option Str → V
  | none => .non
  | some n => .str n
theorem sv (o : Option Str) {H1 : Hp} {v : V} (h : Im H1 v (eSO o)) : v = vO o := by
  cases o with
  | none => exact h.n
  | some n => exact h.s
theorem cal_may_load (S : SrcM K C "may_load" "Told.may_load" st_Told_may_load ["self", "target", "place", "k"]) (T : Txt K mg) (TT : TTxt K C) (M_entry : CalM P w K mg base CX0 2 C "entry" ["self", "place", "k"] (SpS (TO C) R_entry)) (C_name_in : Cal P w K mg base CX0 1 "name_in" ["entry"] sp_name_in) : CalM P w K mg base CX0 3 C "may_load" ["self", "target", "place", "k"] (SpS (TO C) R_load) := by
  have sc := sc_Told_may_load
  refine S.cal (k := 2) sc (SpS.len fun x ds d h => by obtain ⟨_, _, _, _, _, rfl, _⟩ := h; rfl) (fun f cdv A outer s H vs Q E hr h => ⟨_, (pss_cons (ps_set (i := 4) sc.nd rfl (by first | exact Or.inl rfl | exact Or.inr rfl) (pe_calM M_entry TT.cl (hr.mono (by first | decide | omega)) pass0 (pv 0) (pa_cons (pv 2) (pa_cons (pv 3) pa_nil))))
  (pss_one (ps_ret (pe_and (pe_cmpR op_notN (pv 4) pe_non (nomark _)) (pe_one (pe_cmpR (k_in_seq (K := K) rfl) (pe_cal C_name_in (hr.mono (by first | decide | omega)) rfl pass0 (pa_cons (pv 4) pa_nil)) (pe_tup (pa_cons pe_non (pa_cons (pe_ix (k_ix_tup (K := K) rfl) (k_fld (K := K) rfl (pv 0) rfl) (pv 1) (fun _ _ => rfl)) pa_nil))) (by rfl))))))), ?_⟩)
  obtain ⟨x, a, ws, ds, d, rfl, o, i, ⟨q, p, k, c, g, rfl, G, A0, hg, rfl⟩, kk⟩ := h
  obtain ⟨v, u, t, rfl, iv, iu, it⟩ := i.three
  have ev := iv.i
  have eu := iu.i
  have et := it.i
  subst ev eu et
  show tSeq _ _ _ [some (.ref a), some (.int (q : Nat)), some (.int (p : Nat)), some (.int (k : Nat)), none] H
  refine q_asgD (d := eEnt c[k]?) (ed_M (ev_var rfl) o (by decide +kernel) (ea1 (ed_var rfl (.int _)) (ea1 (ed_var rfl (.int _)) ea0)) ⟨p, k, c, rfl, G, A0, rfl⟩) ?_
  intro cv H1 e1 icv
  show tRet _ _ [some (.ref a), some (.int (q : Nat)), some (.int (p : Nat)), some (.int (k : Nat)), some cv] H1
  refine s_retD (d := .bool (fits x c[k]? g)) ?_ fun v1 H2 e2 iv1 => kk v1 H2 (e1.trans e2) iv1
  cases hc : c[k]? with
  | none =>
    rw [hc] at icv
    exact ed_and (b := false) (EvD.is (ed_notN (ed_var rfl icv)) rfl) (fun z => by cases z)
  | some e =>
    rw [hc] at icv
    refine ed_and (a := true) (EvD.is (ed_notN (ed_var rfl icv)) rfl) (fun _ => EvD.is (ed_inV (neg := false) (x := vO (firstName e)) (xs := [.non, .str g]) (d := eSO (firstName e)) (ed_callQ (ea1 (ed_var rfl icv) ea0) ⟨e, rfl, rfl⟩) (fun H1 v h => sv _ h) ?_ (ed_tup (ea1 ed_n (ea1 (ed_regAt TT (ev_var rfl) (o.mono e1) (ed_var rfl (.int _)) hg) ea0)) (by show 2 ≤ 100000; omega)) (fun H1 vs h => ?_) rfl) ?_)
    · cases firstName e <;> rfl
    · obtain ⟨v1, v2, rfl, h1, h2⟩ := h.two
      rw [h1.n, h2.s]
    · show PyData.bool (inV _ _) = PyData.bool (match firstName e with | none => true | some n => decide (n = g))
      cases firstName e with
      | none => rfl
      | some n =>
        by_cases hn : n = g
        · subst hn; simp [vO, inV, eqV]
        · have hn' : ¬ g = n := fun z => hn z.symm
          simp [vO, inV, eqV, hn, hn']
theorem cal_may_store (S : SrcM K C "may_store" "Told.may_store" st_Told_may_store ["self", "place", "k", "source"]) (T : Txt K mg) (TT : TTxt K C) (M_entry : CalM P w K mg base CX0 2 C "entry" ["self", "place", "k"] (SpS (TO C) R_entry)) (C_name_in : Cal P w K mg base CX0 1 "name_in" ["entry"] sp_name_in) : CalM P w K mg base CX0 3 C "may_store" ["self", "place", "k", "source"] (SpS (TO C) R_store) := by
  have sc := sc_Told_may_store
  refine S.cal (k := 2) sc (SpS.len fun x ds d h => by obtain ⟨_, _, _, _, _, rfl, _⟩ := h; rfl) (fun f cdv A outer s H vs Q E hr h => ⟨_, (pss_cons (ps_set (i := 4) sc.nd rfl (by first | exact Or.inl rfl | exact Or.inr rfl) (pe_calM M_entry TT.cl (hr.mono (by first | decide | omega)) pass0 (pv 0) (pa_cons (pv 1) (pa_cons (pv 2) pa_nil))))
  (pss_one (ps_ret (pe_and (pe_cmpR op_notN (pv 4) pe_non (nomark _)) (pe_and (pe_cmpR (k_in_seq (K := K) rfl) (pe_gl rfl T.c_NONE) (pv 4) (by rfl)) (pe_one (pe_cmpR op_eq (pe_cal C_name_in (hr.mono (by first | decide | omega)) rfl pass0 (pa_cons (pv 4) pa_nil)) (pe_ix (k_ix_tup (K := K) rfl) (k_fld (K := K) rfl (pv 0) rfl) (pv 3) (fun _ _ => rfl)) (nomark _)))))))), ?_⟩)
  obtain ⟨x, a, ws, ds, d, rfl, o, i, ⟨p, k, q, c, g, rfl, G, A0, hg, rfl⟩, kk⟩ := h
  obtain ⟨v, u, t, rfl, iv, iu, it⟩ := i.three
  have ev := iv.i
  have eu := iu.i
  have et := it.i
  subst ev eu et
  show tSeq _ _ _ [some (.ref a), some (.int (p : Nat)), some (.int (k : Nat)), some (.int (q : Nat)), none] H
  refine q_asgD (d := eEnt c[k]?) (ed_M (ev_var rfl) o (by decide +kernel) (ea1 (ed_var rfl (.int _)) (ea1 (ed_var rfl (.int _)) ea0)) ⟨p, k, c, rfl, G, A0, rfl⟩) ?_
  intro cv H1 e1 icv
  show tRet _ _ [some (.ref a), some (.int (p : Nat)), some (.int (k : Nat)), some (.int (q : Nat)), some cv] H1
  refine s_retD (d := .bool (keepsN c[k]? g)) ?_ fun v1 H2 e2 iv1 => kk v1 H2 (e1.trans e2) iv1
  cases hc : c[k]? with
  | none =>
    rw [hc] at icv
    exact ed_and (b := false) (EvD.is (ed_notN (ed_var rfl icv)) rfl) (fun z => by cases z)
  | some e =>
    rw [hc] at icv
    refine ed_and (a := true) (EvD.is (ed_notN (ed_var rfl icv)) rfl) (fun _ => ed_and (ed_inT (ed_s _) (ed_var rfl icv)) (fun _ => EvD.is (ed_eqV (x := vO (firstName e)) (y := .str g) (d := eSO (firstName e)) (ed_callQ (ea1 (ed_var rfl icv) ea0) ⟨e, rfl, rfl⟩) (ed_regAt TT (ev_var rfl) (o.mono e1) (ed_var rfl (.int _)) hg) (fun H1 v h => sv _ h) (fun H1 v h => h.s) ?_) ?_))
    · cases firstName e <;> rfl
    · cases firstName e with
      | none => rfl
      | some n =>
        by_cases hn : n = g
        · subst hn; simp [vO]
        · simp [vO, hn]
end
end K35
set_option Elab.async false
set_option linter.all false
set_option maxRecDepth 100000
set_option maxHeartbeats 4000000
namespace K35
open PySem PySem.Spec PyProof.Rows L2 Evl Pd
inductive Op
  | put (r s : Nat) | get (r k : Nat) | set (r k : Nat) | load (q r k : Nat) | store (r k q : Nat) | root (i q : Nat) | take (q i : Nat) | copy (q r : Nat) | drop (q : Nat) | same (q r : Nat) | size (r : Nat)
def eOp : Op → PyData
  | .put r s => .tuple [.str "put", .int (r : Nat), .int (s : Nat)]
  | .get r k => .tuple [.str "get", .int (r : Nat), .int (k : Nat)]
  | .set r k => .tuple [.str "set", .int (r : Nat), .int (k : Nat), .int 5]
  | .load q r k => .tuple [.str "load", .int (q : Nat), .int (r : Nat), .int (k : Nat)]
  | .store r k q => .tuple [.str "store", .int (r : Nat), .int (k : Nat), .int (q : Nat)]
  | .root i q => .tuple [.str "root", .int (i : Nat), .int (q : Nat)]
  | .take q i => .tuple [.str "take", .int (q : Nat), .int (i : Nat)]
  | .copy q r => .tuple [.str "copy", .int (q : Nat), .int (r : Nat)]
  | .drop q => .tuple [.str "drop", .int (q : Nat)]
  | .same q r => .tuple [.str "same", .int (q : Nat), .int (r : Nat)]
  | .size r => .tuple [.str "size", .int (r : Nat)]
/-- its numbers are registers and roots -/
def OpOk (R G : Nat) : Op → Prop
  | .put r _ => r < G
  | .get r _ => r < G
  | .set r _ => r < G
  | .load q r _ => q < G ∧ r < G
  | .store r _ q => q < G ∧ r < G
  | .root i q => i < R ∧ q < G
  | .take q i => i < R ∧ q < G
  | .copy q r => q < G ∧ r < G
  | .drop q => q < G
  | .same q r => q < G ∧ r < G
  | .size r => r < G
def reg (x : TS3) (p : Nat) : Str := x.2.2.getD p ""
def roo (x : TS3) (p : Nat) : Str := x.2.1.getD p ""
def cAt (x : TS3) (p : Nat) : List (List Str) := (cellsOf x.1 (reg x p)).getD []
def toldAllows (x : TS3) : Op → Bool
  | .put r s => decide ((cAt x r).length = s) && (cAt x r).all fun e => decide (("none" : Str) ∈ e)
  | .get r k => ((cAt x r)[k]?).isSome
  | .set r k => match (cAt x r)[k]? with | none => false | some e => decide (("integer" : Str) ∈ e)
  | .load q r k => fits x (cAt x r)[k]? (reg x q)
  | .store r k q => keepsN (cAt x r)[k]? (reg x q)
  | .root i q => decide (roo x i = reg x q)
  | .take q i => decide (reg x q = roo x i)
  | .copy q r => decide (reg x q = reg x r)
  | _ => true
theorem reg_at {x : TS3} {p : Nat} (h : p < x.2.2.length) : x.2.2[p]? = some (reg x p) := by
  unfold reg
  rw [List.getD_eq_getElem?_getD, List.getElem?_eq_getElem h]; rfl
theorem roo_at {x : TS3} {p : Nat} (h : p < x.2.1.length) : x.2.1[p]? = some (roo x p) := by
  unfold roo
  rw [List.getD_eq_getElem?_getD, List.getElem?_eq_getElem h]; rfl
theorem Gd.at {x : TS3} (G : Gd x) {p : Nat} (h : p < x.2.2.length) : At x p (cAt x p) := by
  refine ⟨reg x p, reg_at h, ?_⟩
  have := G.all (reg x p) (List.mem_append_right _ (List.mem_of_getElem? (reg_at h)))
  unfold cAt
  cases e : cellsOf x.1 (reg x p) with
  | none => rw [e] at this; cases this
  | some c => rfl
section
variable {w x : Str} {is : List (Option Nat)} {tb : TS} {tr : TMc} {vs : List V} {D : Ends} {σ : L2.St} {H : Hp}
theorem mSeq_hit (hl : vs.length = is.length) (h : tb D (setAll σ is vs) H) : mSeq w is tb tr (.str w :: vs) D σ H := by
  unfold mSeq
  rw [if_pos (by simp [hl])]
  exact ⟨w, vs, rfl, by rw [if_pos rfl]; exact h⟩
theorem mSeq_len (hl : vs.length ≠ is.length) (h : tr (.str x :: vs) D σ H) : mSeq w is tb tr (.str x :: vs) D σ H := by
  unfold mSeq
  rw [if_neg (by simpa using hl)]
  exact h
theorem mSeq_word (hw : (x == w) = false) (h : tr (.str x :: vs) D σ H) : mSeq w is tb tr (.str x :: vs) D σ H := by
  unfold mSeq
  by_cases hl : (V.str x :: vs).length = is.length + 1
  · rw [if_pos hl]
    exact ⟨x, vs, rfl, by rw [if_neg (by simpa using hw)]; exact h⟩
  · rw [if_neg hl]; exact h
end
def R_allows (x : TS3) (ds : List PyData) (d : PyData) : Prop := ∃ op : Op, ds = [eOp op] ∧ Gd x ∧ OpOk x.2.1.length x.2.2.length op ∧ d = .bool (toldAllows x op)
section
variable {P : Program} {w : World} {K : PySem.W.Frag} {mg : Str → Option Value} {base : Heap} {C : Addr}
theorem q_match {te : TE} {tm : TMc} {tz : TS} {D : Ends} {σ : L2.St} {H : Hp} {ds : List PyData} (h : EvD te σ H (.tuple ds)) (k : ∀ H1 xs, Ex H H1 → Ims H1 xs ds → tm xs { D with nx := tz D } σ H1) : tSeq (tMatch K te tm) tz D σ H := h H (Ex.refl H) _ fun v H1 e iv => by
  obtain ⟨p, xs, rfl, g1, g2⟩ := iv.t
  exact ⟨p, xs, rfl, SqT.of g1, k H1 xs e g2⟩
theorem _root_.Pd.Ims.hd {H : Hp} {d : PyData} {ds : List PyData} {vs : List V} (h : Ims H vs (d :: ds)) : ∃ v ws, vs = v :: ws ∧ Im H v d ∧ Ims H ws ds := by
  cases h with
  | cons h1 h2 => exact ⟨_, _, rfl, h1, h2⟩
theorem cal_allows (S : SrcM K C "allows" "Told.allows" st_Told_allows ["self", "operation"]) (T : Txt K mg) (TT : TTxt K C) (M_entry : CalM P w K mg base CX0 2 C "entry" ["self", "place", "k"] (SpS (TO C) R_entry)) (M_may_put : CalM P w K mg base CX0 2 C "may_put" ["self", "place", "size"] (SpS (TO C) R_put))
    (M_may_set : CalM P w K mg base CX0 3 C "may_set" ["self", "place", "k"] (SpS (TO C) R_set)) (M_may_load : CalM P w K mg base CX0 3 C "may_load" ["self", "target", "place", "k"] (SpS (TO C) R_load)) (M_may_store : CalM P w K mg base CX0 3 C "may_store" ["self", "place", "k", "source"] (SpS (TO C) R_store)) : CalM P w K mg base CX0 4 C "allows" ["self", "operation"] (SpS (TO C) R_allows) := by
  have sc := sc_Told_allows
  refine S.cal (k := 3) sc (SpS.len fun x ds d h => by obtain ⟨_, rfl, _⟩ := h; rfl) (fun f cdv A outer s H vs Q E hr h => ⟨_, (pss_cons (ps_match (pv 1) (pmc_seq rfl sc.nd (CapOk.name (i := 2) rfl (by first | exact Or.inl rfl | exact Or.inr rfl) (by first | exact Or.inl rfl | exact Or.inr rfl) (CapOk.name (i := 3) rfl (by first | exact Or.inl rfl | exact Or.inr rfl) (by first | exact Or.inl rfl | exact Or.inr rfl) CapOk.nil)) (pss_one (ps_ret (pe_calM M_may_put TT.cl (hr.mono (by first | decide | omega)) pass0 (pv 0) (pa_cons (pv 2) (pa_cons (pv 3) pa_nil)))))
 (pmc_seq rfl sc.nd (CapOk.name (i := 2) rfl (by first | exact Or.inl rfl | exact Or.inr rfl) (by first | exact Or.inl rfl | exact Or.inr rfl) (CapOk.name (i := 4) rfl (by first | exact Or.inl rfl | exact Or.inr rfl) (by first | exact Or.inl rfl | exact Or.inr rfl) CapOk.nil)) (pss_one (ps_ret (pe_cmpR op_notN (pe_calM M_entry TT.cl (hr.mono (by first | decide | omega)) pass0 (pv 0) (pa_cons (pv 2) (pa_cons (pv 4) pa_nil))) pe_non (nomark _))))
 (pmc_seq rfl sc.nd (CapOk.name (i := 2) rfl (by first | exact Or.inl rfl | exact Or.inr rfl) (by first | exact Or.inl rfl | exact Or.inr rfl) (CapOk.name (i := 4) rfl (by first | exact Or.inl rfl | exact Or.inr rfl) (by first | exact Or.inl rfl | exact Or.inr rfl) (CapOk.any CapOk.nil))) (pss_one (ps_ret (pe_calM M_may_set TT.cl (hr.mono (by first | decide | omega)) pass0 (pv 0) (pa_cons (pv 2) (pa_cons (pv 4) pa_nil)))))
 (pmc_seq rfl sc.nd (CapOk.name (i := 5) rfl (by first | exact Or.inl rfl | exact Or.inr rfl) (by first | exact Or.inl rfl | exact Or.inr rfl) (CapOk.name (i := 2) rfl (by first | exact Or.inl rfl | exact Or.inr rfl) (by first | exact Or.inl rfl | exact Or.inr rfl) (CapOk.name (i := 4) rfl (by first | exact Or.inl rfl | exact Or.inr rfl) (by first | exact Or.inl rfl | exact Or.inr rfl) CapOk.nil))) (pss_one (ps_ret (pe_calM M_may_load TT.cl (hr.mono (by first | decide | omega)) pass0 (pv 0) (pa_cons (pv 5) (pa_cons (pv 2) (pa_cons (pv 4) pa_nil))))))
 (pmc_seq rfl sc.nd (CapOk.name (i := 2) rfl (by first | exact Or.inl rfl | exact Or.inr rfl) (by first | exact Or.inl rfl | exact Or.inr rfl) (CapOk.name (i := 4) rfl (by first | exact Or.inl rfl | exact Or.inr rfl) (by first | exact Or.inl rfl | exact Or.inr rfl) (CapOk.name (i := 6) rfl (by first | exact Or.inl rfl | exact Or.inr rfl) (by first | exact Or.inl rfl | exact Or.inr rfl) CapOk.nil))) (pss_one (ps_ret (pe_calM M_may_store TT.cl (hr.mono (by first | decide | omega)) pass0 (pv 0) (pa_cons (pv 2) (pa_cons (pv 4) (pa_cons (pv 6) pa_nil))))))
 (pmc_seq rfl sc.nd (CapOk.name (i := 7) rfl (by first | exact Or.inl rfl | exact Or.inr rfl) (by first | exact Or.inl rfl | exact Or.inr rfl) (CapOk.name (i := 6) rfl (by first | exact Or.inl rfl | exact Or.inr rfl) (by first | exact Or.inl rfl | exact Or.inr rfl) CapOk.nil)) (pss_one (ps_ret (pe_cmpR op_eq (pe_ix (k_ix_tup (K := K) rfl) (k_fld (K := K) rfl (pv 0) rfl) (pv 7) (fun _ _ => rfl)) (pe_ix (k_ix_tup (K := K) rfl) (k_fld (K := K) rfl (pv 0) rfl) (pv 6) (fun _ _ => rfl)) (nomark _))))
 (pmc_seq rfl sc.nd (CapOk.name (i := 5) rfl (by first | exact Or.inl rfl | exact Or.inr rfl) (by first | exact Or.inl rfl | exact Or.inr rfl) (CapOk.name (i := 7) rfl (by first | exact Or.inl rfl | exact Or.inr rfl) (by first | exact Or.inl rfl | exact Or.inr rfl) CapOk.nil)) (pss_one (ps_ret (pe_cmpR op_eq (pe_ix (k_ix_tup (K := K) rfl) (k_fld (K := K) rfl (pv 0) rfl) (pv 5) (fun _ _ => rfl)) (pe_ix (k_ix_tup (K := K) rfl) (k_fld (K := K) rfl (pv 0) rfl) (pv 7) (fun _ _ => rfl)) (nomark _))))
 (pmc_seq rfl sc.nd (CapOk.name (i := 5) rfl (by first | exact Or.inl rfl | exact Or.inr rfl) (by first | exact Or.inl rfl | exact Or.inr rfl) (CapOk.name (i := 6) rfl (by first | exact Or.inl rfl | exact Or.inr rfl) (by first | exact Or.inl rfl | exact Or.inr rfl) CapOk.nil)) (pss_one (ps_ret (pe_cmpR op_eq (pe_ix (k_ix_tup (K := K) rfl) (k_fld (K := K) rfl (pv 0) rfl) (pv 5) (fun _ _ => rfl)) (pe_ix (k_ix_tup (K := K) rfl) (k_fld (K := K) rfl (pv 0) rfl) (pv 6) (fun _ _ => rfl)) (nomark _))))
 pmc_nil)))))))))
  (pss_one (ps_ret pe_bl))), ?_⟩)
  obtain ⟨x, a, ws, ds, d, rfl, o, i, ⟨op, rfl, G, ok, rfl⟩, kk⟩ := h
  obtain ⟨v, rfl, iv⟩ := i.one
  show tSeq _ _ _ [some (.ref a), some v, none, none, none, none, none, none] H
  have vI : ∀ {σ : L2.St} {H1 : Hp} {i : Nat} {n : Nat}, σ[i]? = some (some (.int (n : Nat))) → EvD (tVar i) σ H1 (.int (n : Nat)) := fun h => ed_var h (.int _)
  cases op with
  | put r s =>
    refine q_match (ed_var rfl iv) fun H1 xs e1 ix => ?_
    obtain ⟨v0, xs, rfl, i0, ix⟩ := ix.hd
    obtain ⟨v1, v2, rfl, i1, i2⟩ := ix.two
    have := i0.s; have := i1.i; have := i2.i
    subst_vars
    repeat (first | refine mSeq_hit rfl ?_ | refine mSeq_len (by decide) ?_ | refine mSeq_word (by decide +kernel) ?_)
    exact s_retD (ed_M (ev_var rfl) (o.mono e1) (by decide +kernel) (ea1 (vI rfl) (ea1 (vI rfl) ea0)) ⟨r, s, cAt x r, rfl, G, G.at ok, rfl⟩) fun v3 H2 e2 iv3 => kk v3 H2 (e1.trans e2) iv3
  | get r s =>
    refine q_match (ed_var rfl iv) fun H1 xs e1 ix => ?_
    obtain ⟨v0, xs, rfl, i0, ix⟩ := ix.hd
    obtain ⟨v1, v2, rfl, i1, i2⟩ := ix.two
    have := i0.s; have := i1.i; have := i2.i
    subst_vars
    repeat (first | refine mSeq_hit rfl ?_ | refine mSeq_len (by decide) ?_ | refine mSeq_word (by decide +kernel) ?_)
    have he := ed_M (R := R_entry) (E := E0) (m := "entry") (ev_var (σ := setAll [some (V.ref a), some v, none, none, none, none, none, none] [some 2, some 4] [V.int (r : Nat), V.int (s : Nat)]) (i := 0) rfl) (o.mono e1) (by decide +kernel) (ea1 (vI (i := 2) rfl) (ea1 (vI (i := 4) rfl) ea0)) ⟨r, s, cAt x r, rfl, G, G.at ok, rfl⟩
    refine s_retD (d := .bool ((cAt x r)[s]?).isSome) ?_ fun v3 H2 e2 iv3 => kk v3 H2 (e1.trans e2) iv3
    cases hc : (cAt x r)[s]? with
    | none => rw [hc] at he; exact EvD.is (ed_notN he) rfl
    | some c => rw [hc] at he; exact EvD.is (ed_notN he) rfl
  | set r s =>
    refine q_match (ed_var rfl iv) fun H1 xs e1 ix => ?_
    obtain ⟨v0, xs, rfl, i0, ix⟩ := ix.hd
    obtain ⟨v1, v2, v3, rfl, i1, i2, i3⟩ := ix.three
    have := i0.s; have := i1.i; have := i2.i; have := i3.i
    subst_vars
    repeat (first | refine mSeq_hit rfl ?_ | refine mSeq_len (by decide) ?_ | refine mSeq_word (by decide +kernel) ?_)
    exact s_retD (ed_M (ev_var rfl) (o.mono e1) (by decide +kernel) (ea1 (vI rfl) (ea1 (vI rfl) ea0)) ⟨r, s, cAt x r, rfl, G, G.at ok, rfl⟩) fun v3 H2 e2 iv3 => kk v3 H2 (e1.trans e2) iv3
  | load q r s =>
    refine q_match (ed_var rfl iv) fun H1 xs e1 ix => ?_
    obtain ⟨v0, xs, rfl, i0, ix⟩ := ix.hd
    obtain ⟨v1, v2, v3, rfl, i1, i2, i3⟩ := ix.three
    have := i0.s; have := i1.i; have := i2.i; have := i3.i
    subst_vars
    repeat (first | refine mSeq_hit rfl ?_ | refine mSeq_len (by decide) ?_ | refine mSeq_word (by decide +kernel) ?_)
    exact s_retD (ed_M (ev_var rfl) (o.mono e1) (by decide +kernel) (ea1 (vI rfl) (ea1 (vI rfl) (ea1 (vI rfl) ea0))) ⟨q, r, s, cAt x r, reg x q, rfl, G, G.at ok.2, reg_at ok.1, rfl⟩) fun v3 H2 e2 iv3 => kk v3 H2 (e1.trans e2) iv3
  | store r s q =>
    refine q_match (ed_var rfl iv) fun H1 xs e1 ix => ?_
    obtain ⟨v0, xs, rfl, i0, ix⟩ := ix.hd
    obtain ⟨v1, v2, v3, rfl, i1, i2, i3⟩ := ix.three
    have := i0.s; have := i1.i; have := i2.i; have := i3.i
    subst_vars
    repeat (first | refine mSeq_hit rfl ?_ | refine mSeq_len (by decide) ?_ | refine mSeq_word (by decide +kernel) ?_)
    exact s_retD (ed_M (ev_var rfl) (o.mono e1) (by decide +kernel) (ea1 (vI rfl) (ea1 (vI rfl) (ea1 (vI rfl) ea0))) ⟨r, s, q, cAt x r, reg x q, rfl, G, G.at ok.2, reg_at ok.1, rfl⟩) fun v3 H2 e2 iv3 => kk v3 H2 (e1.trans e2) iv3
  | root r q =>
    refine q_match (ed_var rfl iv) fun H1 xs e1 ix => ?_
    obtain ⟨v0, xs, rfl, i0, ix⟩ := ix.hd
    obtain ⟨v1, v2, rfl, i1, i2⟩ := ix.two
    have := i0.s; have := i1.i; have := i2.i
    subst_vars
    repeat (first | refine mSeq_hit rfl ?_ | refine mSeq_len (by decide) ?_ | refine mSeq_word (by decide +kernel) ?_)
    exact s_retD (ed_eqS (ed_rooAt TT (ev_var rfl) (o.mono e1) (vI rfl) (roo_at ok.1)) (ed_regAt TT (ev_var rfl) (o.mono e1) (vI rfl) (reg_at ok.2))) fun v3 H2 e2 iv3 => kk v3 H2 (e1.trans e2) iv3
  | take q r =>
    refine q_match (ed_var rfl iv) fun H1 xs e1 ix => ?_
    obtain ⟨v0, xs, rfl, i0, ix⟩ := ix.hd
    obtain ⟨v1, v2, rfl, i1, i2⟩ := ix.two
    have := i0.s; have := i1.i; have := i2.i
    subst_vars
    repeat (first | refine mSeq_hit rfl ?_ | refine mSeq_len (by decide) ?_ | refine mSeq_word (by decide +kernel) ?_)
    exact s_retD (ed_eqS (ed_regAt TT (ev_var rfl) (o.mono e1) (vI rfl) (reg_at ok.2)) (ed_rooAt TT (ev_var rfl) (o.mono e1) (vI rfl) (roo_at ok.1))) fun v3 H2 e2 iv3 => kk v3 H2 (e1.trans e2) iv3
  | copy q r =>
    refine q_match (ed_var rfl iv) fun H1 xs e1 ix => ?_
    obtain ⟨v0, xs, rfl, i0, ix⟩ := ix.hd
    obtain ⟨v1, v2, rfl, i1, i2⟩ := ix.two
    have := i0.s; have := i1.i; have := i2.i
    subst_vars
    repeat (first | refine mSeq_hit rfl ?_ | refine mSeq_len (by decide) ?_ | refine mSeq_word (by decide +kernel) ?_)
    exact s_retD (ed_eqS (ed_regAt TT (ev_var rfl) (o.mono e1) (vI rfl) (reg_at ok.1)) (ed_regAt TT (ev_var rfl) (o.mono e1) (vI rfl) (reg_at ok.2))) fun v3 H2 e2 iv3 => kk v3 H2 (e1.trans e2) iv3
  | drop q =>
    refine q_match (ed_var rfl iv) fun H1 xs e1 ix => ?_
    obtain ⟨v0, xs, rfl, i0, ix⟩ := ix.hd
    obtain ⟨v1, rfl, i1⟩ := ix.one
    have := i0.s; have := i1.i
    subst_vars
    repeat (first | refine mSeq_hit rfl ?_ | refine mSeq_len (by decide) ?_ | refine mSeq_word (by decide +kernel) ?_)
    show tRet (tC (.bl true)) { nx := fun x H' => Q V.non H', rt := Q } [some (V.ref a), some v, none, none, none, none, none, none] H1
    exact s_retD (ed_b true) fun v3 H2 e2 iv3 => kk v3 H2 (e1.trans e2) iv3
  | same q r =>
    refine q_match (ed_var rfl iv) fun H1 xs e1 ix => ?_
    obtain ⟨v0, xs, rfl, i0, ix⟩ := ix.hd
    obtain ⟨v1, v2, rfl, i1, i2⟩ := ix.two
    have := i0.s; have := i1.i; have := i2.i
    subst_vars
    repeat (first | refine mSeq_hit rfl ?_ | refine mSeq_len (by decide) ?_ | refine mSeq_word (by decide +kernel) ?_)
    show tRet (tC (.bl true)) { nx := fun x H' => Q V.non H', rt := Q } [some (V.ref a), some v, none, none, none, none, none, none] H1
    exact s_retD (ed_b true) fun v3 H2 e2 iv3 => kk v3 H2 (e1.trans e2) iv3
  | size r =>
    refine q_match (ed_var rfl iv) fun H1 xs e1 ix => ?_
    obtain ⟨v0, xs, rfl, i0, ix⟩ := ix.hd
    obtain ⟨v1, rfl, i1⟩ := ix.one
    have := i0.s; have := i1.i
    subst_vars
    repeat (first | refine mSeq_hit rfl ?_ | refine mSeq_len (by decide) ?_ | refine mSeq_word (by decide +kernel) ?_)
    show tRet (tC (.bl true)) { nx := fun x H' => Q V.non H', rt := Q } [some (V.ref a), some v, none, none, none, none, none, none] H1
    exact s_retD (ed_b true) fun v3 H2 e2 iv3 => kk v3 H2 (e1.trans e2) iv3
end
end K35
set_option Elab.async false
set_option linter.all false
set_option maxRecDepth 100000
set_option maxHeartbeats 4000000
namespace K35
open PySem PySem.Spec PyProof.Rows L2 Evl Pd
structure GoodK (x : TS3) (d1 d2 d3 : PyData) : Prop where
  e1 : d1 = eT x.1
  e2 : d2 = eS x.2.1
  e3 : d3 = eS x.2.2
  gt : GoodT x.1
  it : isTable x.1 = true
  gd : Gd x
  few : x.2.1.length + x.2.2.length ≤ 1000
/-- a name that is none of the table's -/
def BadName (tb : List TRow) (d : PyData) : Prop := d = .none ∨ ∃ n, d = .str n ∧ cellsOf tb n = none
def OkName (tb : List TRow) (d : PyData) : Prop := ∃ n c, d = .str n ∧ cellsOf tb n = some c
def BadK (d1 d2 d3 : PyData) : Prop := TB d1 false ∨ ∃ tb, GoodT tb ∧ d1 = eT tb ∧ isTable tb = true ∧
  ((∃ l, d2 = .list l) ∨ (∃ l, d2 = .tuple l ∧ d3 = .none) ∨ ∃ l2 l3, d2 = .tuple l2 ∧ d3 = .tuple l3 ∧ stills (l2 ++ l3) = true ∧ l2.length + l3.length ≤ 1000 ∧ ∃ i d, (l2 ++ l3)[i]? = some d ∧ BadName tb d ∧ ∀ e ∈ (l2 ++ l3).take i, OkName tb e)
def sp_init (C CK : Addr) : Sp := fun vs H Q E => ∃ (a dx : Addr) (v1 v2 v3 : V) (d1 d2 d3 : PyData), vs = [.ref a, v1, v2, v3] ∧ H a = some (.ins C dx []) ∧ Im H v1 d1 ∧ Im H v2 d2 ∧ Im H v3 d3 ∧
  ((∃ x : TS3, GoodK x d1 d2 d3 ∧ ∀ H', (∀ b o, b ≠ a → H b = some o → H' b = some o) → H' a = some (.ins C dx [("table", v1), ("roots", v2), ("registers", v3)]) → Q .non H') ∨ (BadK d1 d2 d3 ∧ ∀ H', Ex H H' → E (.ref CK) none H'))
def Fault (x : TS3) (ops : List Op) (d : PyData) : Prop := (d = .none ∧ ∀ op ∈ ops, toldAllows x op = true) ∨ ∃ (i : Nat) (op : Op), d = .int (i : Nat) ∧ ops[i]? = some op ∧ toldAllows x op = false ∧ ∀ o ∈ ops.take i, toldAllows x o = true
def sp_kf (CK : Addr) (A : TS3 → List Op → PyData → Prop) : Sp := fun vs H Q E => ∃ (d1 d2 d3 : PyData) (ops : List Op), Ims H vs [d1, d2, d3, .tuple (ops.map eOp)] ∧ ops.length ≤ 1000 ∧
  ((∃ x : TS3, GoodK x d1 d2 d3 ∧ (∀ op ∈ ops, OpOk x.2.1.length x.2.2.length op) ∧ ∀ d v H', A x ops d → Ex H H' → Im H' v d → Q v H') ∨ (BadK d1 d2 d3 ∧ ∀ H', Ex H H' → E (.ref CK) none H'))
def Kept (x : TS3) (ops : List Op) (d : PyData) : Prop := d = .tuple ((ops.filter (toldAllows x)).map eOp)
theorem still_op (op : Op) : still (eOp op) = true := by cases op <;> rfl
theorem still_ops (ops : List Op) : stills (ops.map eOp) = true := stills_of fun _ _ => still_op _
section
variable {P : Program} {w : World} {K : PySem.W.Frag} {mg : Str → Option Value} {base : Heap} {C CK : Addr}
theorem gN {i : Nat} {x : V} {σ : L2.St} {H : Hp} {R : L2.St → Hp → Prop} (h : R (σ.set i (some x)) H) : gName i x σ H R := h
theorem cal_init (S : SrcC K mg "Told" C "Told.__init__" st_Told_init ["self", "table", "roots", "registers"]) (T : Txt K mg) (TT : TTxt K C) (XK : XCls K mg "BadKinds" CK) (C_check_table : Cal P w K mg base (L2.CX P w) 3 "check_table" ["table"] (sp_check_table CK)) (C_cells_in : Cal P w K mg base CX0 1 "cells_in" ["table", "name"] sp_cells_in) : CalC P w K mg base (L2.CX P w) 4 "Told" C ["self", "table", "roots", "registers"] (sp_init C CK) := by
  have sc := sc_Told_init
  refine S.calX (k := 3) sc (fun vs H Q E h => by obtain ⟨_, _, _, _, _, _, _, _, rfl, _⟩ := h; rfl) (fun f cdv A outer s H vs Q E hr h => ⟨_, (pss_cons (ps_expr (pe_cal C_check_table (hr.mono (by first | decide | omega)) rfl (passes_call (takes_of rfl rfl rfl rfl) (fun _ _ _ _ h => h)) (pa_cons (pv 1) pa_nil)))
  (pss_cons (ps_if (PW.pt (pw_or (pt_not (pt_val (pe_callB (k_isi (K := K) rfl) (by rfl) T.n_isinstance (by decide +kernel) (pa_cons (pv 2) (pa_cons (pe_bltn (v := .ty "tuple") (by rfl) T.n_tuple (by decide +kernel) rfl) pa_nil))))) (pw_or1 (pt_not (pt_val (pe_callB (k_isi (K := K) rfl) (by rfl) T.n_isinstance (by decide +kernel) (pa_cons (pv 3) (pa_cons (pe_bltn (v := .ty "tuple") (by rfl) T.n_tuple (by decide +kernel) rfl) pa_nil)))))))) (pss_one (ps_raise rfl (takes_of rfl rfl rfl rfl) (pmk_x XK rfl))) pss_nil)
  (pss_cons (ps_for (passes_of rfl) rfl (k_pi_tup (K := K) rfl (pe_op (k_catA (K := K) rfl) (pv 2) (pv 3))) (pg_name (i := 4) sc.nd rfl (by first | exact Or.inl rfl | exact Or.inr rfl)) (pss_one (ps_if (PW.pt (pw_or (pt_not (pt_val (pe_callB (k_isi (K := K) rfl) (by rfl) T.n_isinstance (by decide +kernel) (pa_cons (pv 4) (pa_cons (pe_bltn (v := .ty "str") (by rfl) T.n_str (by decide +kernel) rfl) pa_nil))))) (pw_or1 (pt_cmpR op_isN (pe_cal C_cells_in (hr.mono (by first | decide | omega)) rfl pass0 (pa_cons (pv 1) (pa_cons (pv 4) pa_nil))) pe_non (nomark _))))) (pss_one (ps_raise rfl (takes_of rfl rfl rfl rfl) (pmk_x XK rfl))) pss_nil)))
  (pss_cons (ps_fld (pv 0) (pv 1) rfl)
  (pss_cons (ps_fld (pv 0) (pv 2) rfl)
  (pss_one (ps_fld (pv 0) (pv 3) rfl))))))), ?_⟩)
  obtain ⟨a, dx, v1, v2, v3, d1, d2, d3, rfl, ha, i1, i2, i3, cases⟩ := h
  show tSeq _ _ _ [some (.ref a), some v1, some v2, some v3, none] H
  have tbd : ∃ b, TB d1 b ∧ (b = false → ∀ H', Ex H H' → E (.ref CK) none H') ∧ (b = true → (∃ x : TS3, GoodK x d1 d2 d3 ∧ ∀ H', (∀ b o, b ≠ a → H b = some o → H' b = some o) → H' a = some (.ins C dx [("table", v1), ("roots", v2), ("registers", v3)]) → Q .non H') ∨
      ((∃ tb, GoodT tb ∧ d1 = eT tb ∧ isTable tb = true ∧ ((∃ l, d2 = .list l) ∨ (∃ l, d2 = .tuple l ∧ d3 = .none) ∨ ∃ l2 l3, d2 = .tuple l2 ∧ d3 = .tuple l3 ∧ stills (l2 ++ l3) = true ∧ l2.length + l3.length ≤ 1000 ∧ ∃ i d, (l2 ++ l3)[i]? = some d ∧ BadName tb d ∧ ∀ e ∈ (l2 ++ l3).take i, OkName tb e)) ∧ ∀ H', Ex H H' → E (.ref CK) none H')) := by
    rcases cases with ⟨x, g, kq⟩ | ⟨b, kb⟩
    · exact ⟨true, .inl ⟨x.1, g.gt, g.e1, g.it.symm⟩, fun z => (by cases z), fun _ => .inl ⟨x, g, kq⟩⟩
    · rcases b with b | ⟨tb, g1, g2, g3, g4⟩
      · exact ⟨false, b, fun _ => kb, fun z => by cases z⟩
      · exact ⟨true, .inl ⟨tb, g1, g2, g3.symm⟩, fun z => (by cases z), fun _ => .inr ⟨⟨tb, g1, g2, g3, g4⟩, kb⟩⟩
  obtain ⟨b, tb1, kb, kt⟩ := tbd
  refine q_dropA (callA (consA (var_run rfl ?_)))
  refine ⟨d1, b, v1, rfl, i1, tb1, fun hb H1 e1 => ?_, fun hb H1 e1 => kb hb H1 e1⟩
  have v1d : ∀ {n : Option V} {H2}, Ex H H2 → EvD (tVar 1) [some (.ref a), some v1, some v2, some v3, n] H2 d1 := fun e => ed_var rfl (i1.mono e)
  have v2d : ∀ {n : Option V} {H2}, Ex H H2 → EvD (tVar 2) [some (.ref a), some v1, some v2, some v3, n] H2 d2 := fun e => ed_var rfl (i2.mono e)
  have v3d : ∀ {n : Option V} {H2}, Ex H H2 → EvD (tVar 3) [some (.ref a), some v1, some v2, some v3, n] H2 d3 := fun e => ed_var rfl (i3.mono e)
  show tSeq (tIfS _ _ _) _ _ [some (.ref a), some v1, some v2, some v3, none] H1
  -- the loop over names, all of them ok up to i
  have loop : ∀ (tb : List TRow) (l2 l3 : List PyData) (tz : TS) (D : Ends), d1 = eT tb → tb.length ≤ 1000 → d2 = .tuple l2 → d3 = .tuple l3 → stills (l2 ++ l3) = true → l2.length + l3.length ≤ 1000 →
      ((∀ d ∈ l2 ++ l3, OkName tb d) ∨ ((∃ i d, (l2 ++ l3)[i]? = some d ∧ BadName tb d ∧ ∀ e ∈ (l2 ++ l3).take i, OkName tb e) ∧ ∀ H', Ex H H' → E (.ref CK) none H')) →
      (∀ n H2, Ex H H2 → (∀ d ∈ l2 ++ l3, OkName tb d) → tz D [some (.ref a), some v1, some v2, some v3, n] H2) → ∀ H2, Ex H H2 →
      tSeq (tFor (iTup K (tOp (rCatA K) (tVar 2) (tVar 3))) (gName 4) (tIfS (tOr (tNot (tB (tCB (rIsi K) (tCons (tVar 4) (tCons (tC (.ty "str")) tNil))))) (tTest (tOp (fun x y H Q => y = .non ∧ Q (.bl (decide (x = .non))) H) (tCall sp_cells_in [] E0 (tCons (tVar 1) (tCons (tVar 4) tNil))) (tC .non)))) (fun _ σ H => E (.ref CK) none H) tNext)) tz D [some (.ref a), some v1, some v2, some v3, none] H2 := by
    intro tb l2 l3 tz D h1 htl h2 h3 hst hlen hcase hz H2 e2
    subst h1 h2 h3
    refine q_forM [] (wm_tup (ed_catA (v2d e2) (v3d e2) (by omega)) hst) (fun i σ' H' => (∃ n, σ' = [some (.ref a), some v1, some v2, some v3, n]) ∧ Ex H H' ∧ ∀ e ∈ (l2 ++ l3).take i, OkName tb e)
      (fun H3 e3 => ⟨⟨none, rfl⟩, e2.trans e3, fun e he => by simp at he⟩) (fun i σ' H3 H4 q e => ⟨q.1, q.2.1.trans e, q.2.2⟩) ?_ ?_
    · rintro i d x σ' H3 H4 hd e34 ix ⟨⟨n, rfl⟩, e4, hok⟩
      refine gN ?_
      show tIfS (tOr _ _) _ _ _ [some (.ref a), some v1, some v2, some v3, some x] H4
      by_cases hO : OkName tb d
      · obtain ⟨s, c, rfl, hc⟩ := id hO
        refine s_when (b := false) (et_is (et_or (et_not (et_DB (ed_isi (ed_var rfl ix) kt_str_str))) (fun _ => et_D (EvD.is (ed_isN (d := eC c) (ed_callQ (ea1 (v1d e4) (ea1 (ed_var rfl ix) ea0)) ⟨tb, s, rfl, htl, by rw [hc]; rfl⟩)) rfl))) rfl) (fun z => by cases z) ?_
        intro _ H5 e5
        refine ⟨⟨⟨_, rfl⟩, e4.trans e5, fun y hy => ?_⟩, ExM.of (e34.trans e5)⟩
        rw [take_more hd] at hy
        rcases List.mem_append.mp hy with hy | hy
        · exact hok y hy
        · have : y = .str s := by simpa using hy
          rw [this]; exact hO
      · rcases hcase with hall | ⟨⟨i', d', hd', hbad, hok'⟩, kE⟩
        · exact absurd (hall d (List.mem_of_getElem? hd)) hO
        · have hii : i = i' := by
            rcases Nat.lt_trichotomy i i' with h | h | h
            · exact absurd (hok' d (by
                rw [List.mem_iff_getElem?]
                exact ⟨i, by rw [List.getElem?_take, if_pos h]; exact hd⟩)) hO
            · exact h
            · have : OkName tb d' := hok d' (by
                rw [List.mem_iff_getElem?]
                exact ⟨i', by rw [List.getElem?_take, if_pos h]; exact hd'⟩)
              obtain ⟨s, c, rfl, hc⟩ := this
              rcases hbad with h | ⟨n, h, hn⟩
              · cases h
              · cases h
                rw [hc] at hn; cases hn
          subst hii
          rw [hd] at hd'
          cases hd'
          rcases hbad with rfl | ⟨s, rfl, hs⟩
          · refine s_when (b := true) (et_or (a := true) (b := true) (et_not (et_DB (ed_isi (ed_var rfl ix) kt_NoneType_str))) (fun z => by cases z)) (fun _ H5 e5 => kE H5 (e4.trans e5)) (fun z => by cases z)
          · refine s_when (b := true) (et_is (et_or (et_not (et_DB (ed_isi (ed_var rfl ix) kt_str_str))) (fun _ => et_D (EvD.is (ed_isN (d := .none) (ed_callQ (ea1 (v1d e4) (ea1 (ed_var rfl ix) ea0)) ⟨tb, s, rfl, htl, by rw [hs]; rfl⟩)) rfl))) rfl) (fun _ H5 e5 => kE H5 (e4.trans e5)) (fun z => by cases z)
    · rintro σ' H' ⟨⟨n, rfl⟩, e4, hok⟩
      rw [List.take_length] at hok
      exact hz n H' e4 hok
  rcases kt hb with ⟨x, g, kq⟩ | ⟨⟨tb, gt, h1, it, hbad⟩, kE⟩
  · have g1 := g.e1
    have g2 := g.e2
    have g3 := g.e3
    subst g1 g2 g3
    have hal : ∀ d ∈ x.2.1.map PyData.str ++ x.2.2.map PyData.str, OkName x.1 d := fun d hd => by
      rw [← List.map_append] at hd
      obtain ⟨n, hn, rfl⟩ := List.mem_map.mp hd
      have := g.gd.all n hn
      cases e : cellsOf x.1 n with
      | none => rw [e] at this; cases this
      | some c => exact ⟨n, c, rfl, e⟩
    refine q_when (b := false) (et_is (et_or (et_not (et_DB (ed_isi (v2d e1) kt_tuple_tuple))) (fun _ => et_not (et_DB (ed_isi (v3d e1) kt_tuple_tuple)))) rfl) (fun z => by cases z) ?_
    intro _ H2 e12
    refine loop x.1 _ _ _ _ rfl g.gd.len rfl rfl (by rw [← List.map_append]; exact stills_of fun _ _ => rfl) (by rw [List.length_map, List.length_map]; exact g.few) (.inl hal) ?_ H2 (e1.trans e12)
    intro n H3 e3 _
    have ha3 := e3 _ _ ha
    refine ⟨v1, rfl, .ref a, rfl, a, C, dx, [], rfl, ha3, TT.cl, TT.nT, by simp, ?_⟩
    refine ⟨v2, rfl, .ref a, rfl, a, C, dx, _, rfl, upd_same, TT.cl, TT.nR, by simp [putF], ?_⟩
    refine ⟨v3, rfl, .ref a, rfl, a, C, dx, _, rfl, upd_same, TT.cl, TT.nG, by simp [putF, n_rt], ?_⟩
    refine kq _ (fun b o hb hbo => ?_) (by rw [upd_same, put3])
    rw [upd_ne hb, upd_ne hb, upd_ne hb]
    exact e3 _ _ hbo
  · subst h1
    rcases hbad with ⟨l, rfl⟩ | ⟨l, rfl, rfl⟩ | ⟨l2, l3, rfl, rfl, hst, hlen, hbd⟩
    · exact q_when (b := true) (et_or (a := true) (b := true) (et_not (et_DB (ed_isi (v2d e1) kt_list_tuple))) (fun z => by cases z)) (fun _ H2 e2 => kE H2 (e1.trans e2)) (fun z => by cases z)
    · exact q_when (b := true) (et_is (et_or (et_not (et_DB (ed_isi (v2d e1) kt_tuple_tuple))) (fun _ => et_not (et_DB (ed_isi (v3d e1) kt_NoneType_tuple)))) rfl) (fun _ H2 e2 => kE H2 (e1.trans e2)) (fun z => by cases z)
    · refine q_when (b := false) (et_is (et_or (et_not (et_DB (ed_isi (v2d e1) kt_tuple_tuple))) (fun _ => et_not (et_DB (ed_isi (v3d e1) kt_tuple_tuple)))) rfl) (fun z => by cases z) ?_
      intro _ H2 e12
      refine loop tb l2 l3 _ _ rfl gt.len rfl rfl hst hlen (.inr ⟨hbd, kE⟩) ?_ H2 (e1.trans e12)
      intro n H3 e3 hok
      obtain ⟨i, d, hd, hb2, _⟩ := hbd
      obtain ⟨s, c, rfl, hc⟩ := hok d (List.mem_of_getElem? hd)
      exfalso
      rcases hb2 with h | ⟨n, h, hn⟩
      · cases h
      · cases h
        rw [hc] at hn; cases hn
end
end K35
set_option Elab.async false
set_option linter.all false
set_option maxRecDepth 100000
set_option maxHeartbeats 4000000
namespace K35
open PySem PySem.Spec PyProof.Rows L2 Evl Pd
theorem numbered_inv {ds : List PyData} {i : Nat} {d : PyData} (h : (numbered 0 ds)[i]? = some d) : ∃ e, ds[i]? = some e ∧ d = .tuple [.int (i : Nat), e] := by
  have hl : i < ds.length := by
    have := (List.getElem?_eq_some_iff.mp h).1
    rwa [numbered_length] at this
  have hg : ds[i]? = some ds[i] := List.getElem?_eq_getElem hl
  have := numbered_get ds 0 i _ hg
  rw [h, Nat.zero_add] at this
  exact ⟨_, hg, Option.some.inj this⟩
section
variable {P : Program} {w : World} {K : PySem.W.Frag} {mg : Str → Option Value} {base : Heap} {C CK : Addr}
variable {σ : L2.St} {H : Hp} {d1 d2 d3 : PyData}
theorem make_ok {ta : TA} {E : XK} {Q : VK} {x : TS3} (h : EvDs ta σ H [d1, d2, d3]) (G : GoodK x d1 d2 d3) (k : ∀ a H1, Ex H H1 → TO C x a H1 → Q (.ref a) H1) : tMake C (sp_init C CK) [] E ta σ H Q :=
  h H (Ex.refl H) _ fun vs H1 e1 iv a dx ha hdx hne => by
    obtain ⟨v1, v2, v3, rfl, i1, i2, i3⟩ := iv.three
    have e2 : Ex H1 (upd (upd H1 dx (.own a)) a (.ins C dx [])) := fun b o hb => by
      have h1 : b ≠ a := fun z => by rw [z, ha] at hb; cases hb
      have h2 : b ≠ dx := fun z => by rw [z, hdx] at hb; cases hb
      rw [upd_ne h1, upd_ne h2]; exact hb
    refine ⟨a, dx, v1, v2, v3, d1, d2, d3, rfl, upd_same, i1.mono e2, i2.mono e2, i3.mono e2, .inl ⟨x, G, fun H' kp ha' => ⟨rfl, ?_⟩⟩⟩
    have e3 : Ex H1 H' := fun b o hb => by
      have h1 : b ≠ a := fun z => by rw [z, ha] at hb; cases hb
      exact kp b o h1 (e2 _ _ hb)
    exact k a H' (e1.trans e3) ⟨dx, v1, v2, v3, ha', by rw [← G.e1]; exact i1.mono e3, by rw [← G.e2]; exact i2.mono e3, by rw [← G.e3]; exact i3.mono e3⟩
theorem make_bad {ta : TA} {E : XK} {Q : VK} (h : EvDs ta σ H [d1, d2, d3]) (B : BadK d1 d2 d3) (k : ∀ H1, Ex H H1 → E (.ref CK) none H1) : tMake C (sp_init C CK) [] E ta σ H Q :=
  h H (Ex.refl H) _ fun vs H1 e1 iv a dx ha hdx hne => by
    obtain ⟨v1, v2, v3, rfl, i1, i2, i3⟩ := iv.three
    have e2 : Ex H1 (upd (upd H1 dx (.own a)) a (.ins C dx [])) := fun b o hb => by
      have h1 : b ≠ a := fun z => by rw [z, ha] at hb; cases hb
      have h2 : b ≠ dx := fun z => by rw [z, hdx] at hb; cases hb
      rw [upd_ne h1, upd_ne h2]; exact hb
    exact ⟨a, dx, v1, v2, v3, d1, d2, d3, rfl, upd_same, i1.mono e2, i2.mono e2, i3.mono e2, .inr ⟨B, fun H' e3 => k H' ((e1.trans e2).trans e3)⟩⟩
theorem Ims.four {H : Hp} {a b c d : PyData} {vs : List V} (h : Ims H vs [a, b, c, d]) : ∃ v w u t, vs = [v, w, u, t] ∧ Im H v a ∧ Im H w b ∧ Im H u c ∧ Im H t d := by
  obtain ⟨v, ws, rfl, i1, h⟩ := h.hd
  obtain ⟨w, u, t, rfl, i2, i3, i4⟩ := h.three
  exact ⟨v, w, u, t, rfl, i1, i2, i3, i4⟩
theorem cal_kind_fault (S : Src K mg "kind_fault" st_kind_fault ["table", "roots", "registers", "program"]) (T : Txt K mg) (TT : TTxt K C) (C_Told : CalC P w K mg base (L2.CX P w) 4 "Told" C ["self", "table", "roots", "registers"] (sp_init C CK)) (M_allows : CalM P w K mg base CX0 4 C "allows" ["self", "operation"] (SpS (TO C) R_allows)) :
    Cal P w K mg base (L2.CX P w) 6 "kind_fault" ["table", "roots", "registers", "program"] (sp_kf CK Fault) := by
  have sc := sc_kind_fault
  refine S.calX (k := 5) sc (fun vs H Q E h => by obtain ⟨_, _, _, _, i, _⟩ := h; exact i.length) (fun f cdv A outer s H vs Q E hr h => ⟨_, (pss_cons (ps_set (i := 4) sc.nd rfl (by first | exact Or.inl rfl | exact Or.inr rfl) (pe_mkC C_Told (hr.mono (by first | decide | omega)) rfl (passes_call (takes_of rfl rfl rfl rfl) (fun _ _ _ _ h => h)) (pa_cons (pv 0) (pa_cons (pv 1) (pa_cons (pv 2) pa_nil)))))
  (pss_cons (ps_for (passes_of rfl) rfl (k_pi_enumT (K := K) rfl (by rfl) T.n_enumerate (pa_cons (pv 3) pa_nil)) (k_pg_tup (K := K) (n := 2) rfl rfl (pgs_cons (pg_name (i := 5) sc.nd rfl (by first | exact Or.inl rfl | exact Or.inr rfl)) (pgs_cons (pg_name (i := 6) sc.nd rfl (by first | exact Or.inl rfl | exact Or.inr rfl)) pgs_nil))) (pss_one (ps_if (pt_not (pt_val (pe_calM M_allows TT.cl (hr.mono (by first | decide | omega)) pass0 (pv 4) (pa_cons (pv 6) pa_nil)))) (pss_one (ps_ret (pv 5))) pss_nil)))
  (pss_one (ps_ret pe_non)))), ?_⟩)
  obtain ⟨d1, d2, d3, ops, i, hl, cases⟩ := h
  obtain ⟨v1, v2, v3, v4, rfl, i1, i2, i3, i4⟩ := Ims.four i
  show tSeq _ _ _ [some v1, some v2, some v3, some v4, none, none, none] H
  have ha : EvDs (tCons (tVar 0) (tCons (tVar 1) (tCons (tVar 2) tNil))) [some v1, some v2, some v3, some v4, none, none, none] H [d1, d2, d3] := ea1 (ed_var rfl i1) (ea1 (ed_var rfl i2) (ea1 (ed_var rfl i3) ea0))
  rcases cases with ⟨x, G, hop, kk⟩ | ⟨B, kE⟩
  · refine q_asgRun (make_ok ha G fun a H1 e1 o => ?_)
    show tSeq (tFor _ _ _) _ _ [some v1, some v2, some v3, some v4, some (.ref a), none, none] H1
    refine q_forM [] (wm_enumT (ds := ops.map eOp) (ed_var rfl (i4.mono e1)) (still_ops ops)) (fun i σ' H' => (∃ m n, σ' = [some v1, some v2, some v3, some v4, some (.ref a), m, n]) ∧ Ex H1 H' ∧ ∀ op ∈ ops.take i, toldAllows x op = true)
      (fun H2 e2 => ⟨⟨none, none, rfl⟩, e2, fun op h => by simp at h⟩) (fun i σ' H2 H3 q e => ⟨q.1, q.2.1.trans e, q.2.2⟩) ?_ ?_
    · rintro i d y σ' H3 H4 hd e34 iy ⟨⟨m, n, rfl⟩, e14, hok⟩
      obtain ⟨d0, hd0, rfl⟩ := numbered_inv hd
      obtain ⟨op, hop1, rfl⟩ := map_inv hd0
      have hopm := List.mem_of_getElem? hop1
      refine g_pair iy fun pl ov j1 j2 => ?_
      have epl := j1.i
      subst epl
      show tIfS (tNot _) _ _ _ [some v1, some v2, some v3, some v4, some (.ref a), some (.int (i : Nat)), some ov] H4
      refine s_when (et_not (et_DB (ed_M (R := R_allows) (ev_var rfl) (o.mono e14) (by decide +kernel) (ea1 (ed_var rfl j2) ea0) ⟨op, rfl, G.gd, hop op hopm, rfl⟩))) ?_ ?_
      · intro hb H5 e5
        refine s_retD (ed_var rfl (.int (i : Nat))) fun v H6 e6 iv => kk _ v H6 (.inr ⟨i, op, rfl, hop1, by simpa using hb, hok⟩) (e1.trans (e14.trans (e5.trans e6))) iv
      · intro hb H5 e5
        refine ⟨⟨⟨_, _, rfl⟩, e14.trans e5, fun y hy => ?_⟩, ExM.of (e34.trans e5)⟩
        rw [take_more hop1] at hy
        rcases List.mem_append.mp hy with hy | hy
        · exact hok y hy
        · have : y = op := by simpa using hy
          rw [this]; simpa using hb
    · rintro σ' H' ⟨⟨m, n, rfl⟩, e14, hok⟩
      rw [numbered_length, List.length_map, List.take_length] at hok
      exact s_retD ed_n fun v H6 e6 iv => kk _ v H6 (.inl ⟨rfl, hok⟩) (e1.trans (e14.trans e6)) iv
  · exact q_asgRun (make_bad ha B fun H1 e1 => kE H1 e1)
theorem cal_keeping (S : Src K mg "keeping" st_keeping ["table", "roots", "registers", "program"]) (T : Txt K mg) (TT : TTxt K C) (C_Told : CalC P w K mg base (L2.CX P w) 4 "Told" C ["self", "table", "roots", "registers"] (sp_init C CK)) (M_allows : CalM P w K mg base CX0 4 C "allows" ["self", "operation"] (SpS (TO C) R_allows)) :
    Cal P w K mg base (L2.CX P w) 6 "keeping" ["table", "roots", "registers", "program"] (sp_kf CK Kept) := by
  have sc := sc_keeping
  refine S.calX (k := 5) sc (fun vs H Q E h => by obtain ⟨_, _, _, _, i, _⟩ := h; exact i.length) (fun f cdv A outer s H vs Q E hr h => ⟨_, (pss_cons (ps_set (i := 4) sc.nd rfl (by first | exact Or.inl rfl | exact Or.inr rfl) (pe_mkC C_Told (hr.mono (by first | decide | omega)) rfl (passes_call (takes_of rfl rfl rfl rfl) (fun _ _ _ _ h => h)) (pa_cons (pv 0) (pa_cons (pv 1) (pa_cons (pv 2) pa_nil)))))
  (pss_one (ps_ret (pe_callTy (k_tuple_of (K := K) rfl) (by rfl) T.n_tuple (by decide +kernel) (pa_cons (pe_lc (own := [("operation", 5)]) rfl sc.nd (k_pi_tup (K := K) rfl (pv 3)) (blkOk_by (by first | decide +kernel | kernel_rfl)) (fun _ _ _ _ _ => (pg_name (i := 5) sc.nd rfl (by first | exact Or.inl rfl | exact Or.inr rfl))) (fun _ _ _ _ _ => (pts_one (pt_val (pe_calM M_allows TT.cl (hr.mono (by first | decide | omega)) pass0 (pv 4) (pa_cons (pv 5) pa_nil))))) (fun _ _ _ _ _ => (pv 5))) pa_nil))))), ?_⟩)
  obtain ⟨d1, d2, d3, ops, i, hl, cases⟩ := h
  obtain ⟨v1, v2, v3, v4, rfl, i1, i2, i3, i4⟩ := Ims.four i
  show tSeq _ _ _ [some v1, some v2, some v3, some v4, none, none] H
  have ha : EvDs (tCons (tVar 0) (tCons (tVar 1) (tCons (tVar 2) tNil))) [some v1, some v2, some v3, some v4, none, none] H [d1, d2, d3] := ea1 (ed_var rfl i1) (ea1 (ed_var rfl i2) (ea1 (ed_var rfl i3) ea0))
  rcases cases with ⟨x, G, hop, kk⟩ | ⟨B, kE⟩
  · refine q_asgRun (make_ok ha G fun a H1 e1 o => ?_)
    show tRet _ _ [some v1, some v2, some v3, some v4, some (.ref a), none] H1
    refine s_retD (ed_tupOf (en_lc (l := ops) (emb := eOp) eOp (toldAllows x) (wk_tup (ed_var rfl (i4.mono e1))) (by omega) (fun op hm y H2 e2 iy => ⟨et_DB (ed_M (R := R_allows) (ev_var rfl) (o.mono e2) (by decide +kernel) (ea1 (ed_var rfl iy) ea0) ⟨op, rfl, G.gd, hop op hm, rfl⟩), fun _ => ed_var rfl iy⟩) (fun op _ _ => still_op op)).toD) fun v H6 e6 iv => kk _ v H6 rfl (e1.trans e6) iv
  · exact q_asgRun (make_bad ha B fun H1 e1 => kE H1 e1)
end
end K35
set_option Elab.async false
set_option linter.all false
set_option maxRecDepth 100000
set_option maxHeartbeats 4000000
namespace K35
open PySem PySem.Spec PyProof.Rows L2 Evl Pd
section
variable {P : Program} {w : World} {K : PySem.W.Frag} {mg : Str → Option Value} {base : Heap}
theorem cal__law_tape (S : Src K mg "_law_tape" st__law_tape ["script"]) (T : Txt K mg) : Cal P w K mg base CX0 1 "_law_tape" ["script"] (sp_tape K) := by
  have sc := sc__law_tape
  refine S.cal (k := 0) sc (fun vs H Q E h => by obtain ⟨_, _, rfl, _⟩ := h; rfl) (fun f cdv A outer s H vs Q E hr h => ⟨_, (pss_cons (ps_set (i := 1) sc.nd rfl (by first | exact Or.inl rfl | exact Or.inr rfl) pe_int)
  (pss_cons (ps_for PassesOwn.never rfl (k_pi_list (K := K) rfl (pv 0)) (pg_name (i := 2) sc.nd rfl (by first | exact Or.inl rfl | exact Or.inr rfl)) (pss_one (ps_set (i := 1) sc.nd rfl (by first | exact Or.inl rfl | exact Or.inr rfl) (pe_op op_mod (pe_callTy call_int1 (by rfl) T.n_int (by decide +kernel) (pa_cons (pe_op op_add (pe_op op_mul (pv 1) pe_int) (pv 2)) pa_nil)) pe_int))))
  (pss_one (ps_ret (pe_lst (pa_cons (pe_lc (own := [("cell", 2)]) rfl sc.nd (k_pi_list (K := K) rfl (pv 0)) (blkOk_by (by first | decide +kernel | kernel_rfl)) (fun _ _ _ _ _ => (pg_name (i := 2) sc.nd rfl (by first | exact Or.inl rfl | exact Or.inr rfl))) (fun _ _ _ _ _ => pts_nil) (fun _ _ _ _ _ => (pe_callB call_abs (by rfl) T.n_abs (by decide +kernel) (pa_cons (pe_callTy call_int1 (by rfl) T.n_int (by decide +kernel) (pa_cons (pv 2) pa_nil)) pa_nil)))) (pa_cons (pe_op op_add (pv 1) pe_int) pa_nil))))))), ?_⟩)
  obtain ⟨a, ns, rfl, hs, hl, k⟩ := h
  refine q_asgD (ed_i 7) ?_
  intro v H1 e1 iv
  have ev := iv.i
  subst ev
  have wk : ∀ {σ : L2.St} {H2}, σ[0]? = some (some (.ref a)) → Ex H H2 → Wk (iList K (tVar 0)) σ H2 (ns.map .int) := fun h e => wk_sq (ev_var h) (ex_l e hs) (Ims.ofInts ns)
  show tSeq _ _ _ [some (.ref a), some (.int 7), none] H1
  refine q_forM [] (wk rfl e1).m (fun i σ' H' => ∃ (s : Int) (b : Option V), σ' = [some (.ref a), some (.int s), b] ∧ (0 ≤ s ∧ s < 1000003) ∧ Ex H H')
    (fun H2 e2 => ⟨7, none, rfl, ⟨by omega, by omega⟩, e1.trans e2⟩) (fun i σ' H2 H3 ⟨s, b, p1, p2, p3⟩ e => ⟨s, b, p1, p2, p3.trans e⟩) ?_ ?_
  · rintro i d x σ' H3 H4 hd e34 ix ⟨s, b, rfl, ⟨s1, s2⟩, e04⟩
    obtain ⟨n, hn, rfl⟩ : ∃ n, ns[i]? = some n ∧ PyData.int n = d := by
      rw [List.getElem?_map] at hd
      cases e : ns[i]? with
      | none => rw [e] at hd; cases hd
      | some r => rw [e] at hd; exact ⟨r, rfl, Option.some.inj hd⟩
    have ex := ix.i
    subst ex
    show tAsg _ _ _ [some (.ref a), some (.int s), some (.int n)] H4
    refine s_asgD (ed_I (C := fun _ j => 0 < j) (g := fun i j => i % j) (ed_int1 (ed_I0 (ed_I (C := CMul) (g := fun i j => i * j) (ed_var rfl (.int _)) (ed_i 31) (.inr ⟨by omega, by omega⟩)) (ed_var rfl (.int _)))) (ed_i 1000003) (by decide)) ?_
    intro v H5 e5 iv
    have ev := iv.i
    subst ev
    have m1 := Int.emod_nonneg (s * 31 + n) (show (1000003 : Int) ≠ 0 by decide)
    have m2 := Int.emod_lt_of_pos (s * 31 + n) (show (0 : Int) < 1000003 by decide)
    exact ⟨⟨_, _, rfl, ⟨m1, m2⟩, e04.trans e5⟩, ExM.of (e34.trans e5)⟩
  · rintro σ' H' ⟨s, b, rfl, ⟨s1, s2⟩, e04⟩
    refine s_retD (en_lst (ea1 (en_lcM (l := ns) (emb := .int) (fun n => .int (if n < 0 then -n else n)) (wk rfl e04) (by omega) (fun n hn x H5 e5 ix => ed_abs (ed_int1 (ed_var rfl ix))) (fun _ _ => rfl)).toD (ea1 (ed_I0 (ed_var rfl (.int s)) (ed_i 1)) ea0)) (by show 2 ≤ 100000; omega)).toD ?_
    intro v H5 e5 iv
    obtain ⟨t, xs, rfl, g1, g2⟩ := iv.l
    obtain ⟨x, y, rfl, i1, i2⟩ := g2.two
    have ey := i2.i
    subst ey
    obtain ⟨c, ys, rfl, g3, g4⟩ := i1.l
    rw [show ns.map (fun n => PyData.int (if n < 0 then -n else n)) = (ns.map fun n => if n < 0 then -n else n).map PyData.int by rw [List.map_map]; rfl] at g4
    have eys := g4.ints
    subst eys
    refine k t c H5 (e04.trans e5) ⟨fun z => ?_, ⟨s + 1, g1, by omega, by omega⟩, ⟨_, g3, by rw [List.length_map]; exact hl, fun n hn => ?_⟩⟩
    · subst z
      rw [g1] at g3
      have h := HO.lst.inj (Option.some.inj g3)
      cases ns with
      | nil => cases h
      | cons n ns => simp at h
    · obtain ⟨m, _, rfl⟩ := List.mem_map.mp hn
      split <;> omega
theorem cal__law_draw (S : Src K mg "_law_draw" st__law_draw ["tape", "many"]) (T : Txt K mg) : Cal P w K mg base CX0 1 "_law_draw" ["tape", "many"] sp_draw := by
  have sc := sc__law_draw
  refine S.cal (k := 0) sc (fun vs H Q E h => by obtain ⟨_, _, _, rfl, _⟩ := h; rfl) (fun f cdv A outer s H vs Q E hr h => ⟨_, (pss_cons (ps_set (i := 2) sc.nd rfl (by first | exact Or.inl rfl | exact Or.inr rfl) (pe_ix (k_ix_list (K := K) rfl) (pv 0) pe_int (fun _ _ => rfl)))
  (pss_cons (ps_while PassesOwn.never (PW.pt (pw_and (pt_cmpR op_gt (pe_callB (k_len_seq (K := K) rfl) (by rfl) T.n_len PySem.boot_len (pa_cons (pv 2) pa_nil)) pe_int (nomark _)) (pw_and1 (pt_cmpR op_eq (pe_ix (k_ix_list (K := K) rfl) (pv 2) pe_int (fun _ _ => rfl)) pe_int (nomark _))))) (pss_one (ps_expr (k_pop (K := K) rfl (pv 2) (pa_cons pe_int pa_nil)))))
  (pss_cons (ps_if (pt_cmpR op_gt (pe_callB (k_len_seq (K := K) rfl) (by rfl) T.n_len PySem.boot_len (pa_cons (pv 2) pa_nil)) pe_int (nomark _)) (pss_cons (ps_set (i := 3) sc.nd rfl (by first | exact Or.inl rfl | exact Or.inr rfl) (pe_ix (k_ix_list (K := K) rfl) (pv 2) pe_int (fun _ _ => rfl)))
  (pss_cons (ps_asg (pe_op op_fdiv (pv 3) (pv 1)) (pg_sub (pv 2) pe_int set_list))
  (pss_one (ps_ret (pe_op op_mod (pe_callTy call_int1 (by rfl) T.n_int (by decide +kernel) (pa_cons (pv 3) pa_nil)) (pv 1)))))) pss_nil)
  (pss_cons (ps_asg (pe_op op_mod (pe_callTy call_int1 (by rfl) T.n_int (by decide +kernel) (pa_cons (pe_op op_add (pe_op op_mul (pe_ix (k_ix_list (K := K) rfl) (pv 0) pe_int (fun _ _ => rfl)) pe_int) pe_int) pa_nil)) pe_int) (pg_sub (pv 0) pe_int set_list))
  (pss_one (ps_ret (pe_op op_mod (pe_callTy call_int1 (by rfl) T.n_int (by decide +kernel) (pa_cons (pe_op op_fdiv (pe_ix (k_ix_list (K := K) rfl) (pv 0) pe_int (fun _ _ => rfl)) pe_int) pa_nil)) (pv 1)))))))), ?_⟩)
  obtain ⟨t, c, m, rfl, T0, hm1, hm2, k⟩ := h
  obtain ⟨hne, ⟨s, ht, hs1, hs2⟩, ⟨ns0, hc0, hl0, hp0⟩⟩ := T0
  refine q_asg (ev_op (ev_var rfl) ev_c (rv_ixL (SqL.of ht) (v := .ref c) rfl)) ?_
  intro H1 e1
  show tSeq (tWhile _ _) _ _ [some (.ref t), some (.int m), some (.ref c), none] H1
  refine s_while (fun n σ' H' => σ' = [some (.ref t), some (.int m), some (.ref c), none] ∧ ExM [t, c] H H' ∧ H' t = some (.lst [.ref c, .int s]) ∧ ∃ ns : List Int, ns.length = n ∧ H' c = some (.lst (ns.map V.int)) ∧ ns.length ≤ 63 ∧ ∀ n ∈ ns, 0 ≤ n) ns0.length
    ⟨rfl, ExM.of e1, e1 _ _ ht, ns0, rfl, e1 _ _ hc0, hl0, hp0⟩ ?_
  rintro n σ' H2 ⟨rfl, e2, ht2, ns, rfl, hc2, hl2, hp2⟩
  have im : Im H2 (.ref c) (.list (ns.map .int)) := .lst hc2 (Ims.ofInts ns)
  have hcv : ∀ {b : Option V} {H3}, Ex H2 H3 → EvD (tVar 2) [some (.ref t), some (.int m), some (.ref c), b] H3 (.list (ns.map .int)) := fun e => ed_var rfl (im.mono e)
  have hlen : ∀ {b : Option V} {H3}, Ex H2 H3 → EvD (tOp (rI0 fun i j => .bl (decide (j < i))) (tCB (rLenS K) (tCons (tVar 2) tNil)) (tC (.int 0))) [some (.ref t), some (.int m), some (.ref c), b] H3 (.bool (decide (0 < ns.length))) := fun e => EvD.is (ed_B0 (ed_lenL (hcv e)) (ed_i 0)) (by rw [List.length_map]; congr 1; simp)
  have h0 : decide (0 < ns.length) = true → atI (ns.map PyData.int) (0 : Int) = some (.int (ns.headD 0)) := fun h => by
    cases ns with
    | nil => simp at h
    | cons a l => exact atI_nat (j := 0) rfl
  refine ⟨decide (0 < ns.length) && decide (ns.headD 0 = 0), et_and (et_D (hlen (Ex.refl _))) (fun h => et_D (ed_eqI (ed_ixL (hcv (Ex.refl _)) (ed_i 0) (h0 h)) (ed_i 0))), ?_, ?_⟩
  · intro hb H3 e3
    cases ns with
    | nil => cases hb
    | cons a l =>
      refine ⟨fun σ2 H4 => σ2 = [some (.ref t), some (.int m), some (.ref c), none] ∧ ExM [t, c] H H4 ∧ H4 t = some (.lst [.ref c, .int s]) ∧ H4 c = some (.lst (l.map V.int)), fun σ2 H4 ⟨q1, q2, q3, q4⟩ => ⟨l.length, by simp, q1, q2, q3, l, rfl, q4, by have : (a :: l).length = l.length + 1 := rfl; omega, fun n hn => hp2 n (List.mem_cons_of_mem _ hn)⟩, ?_⟩
      refine s_pop0 (x := .int a) (xs := l.map V.int) (e3 _ _ hc2) (ev_var rfl) ev_c ?_
      intro H4 e4
      refine ⟨rfl, (e2.trans (ExM.of (e3.trans e4))).trans (ExM.upd ((e3.trans e4) _ _ hc2) (by simp)), ?_, upd_same⟩
      rw [upd_ne hne]
      exact (e3.trans e4) _ _ ht2
  · intro hb H3 e3
    refine q_when (et_D (hlen e3)) ?_ ?_
    · intro hg H4 e4
      have e24 := e3.trans e4
      refine q_asgD (ed_ixL (hcv e24) (ed_i 0) (h0 hg)) ?_
      intro v H5 e5 iv
      have ev := iv.i
      subst ev
      cases ns with
      | nil => cases hg
      | cons a l =>
        have e25 := e24.trans e5
        show tSeq (tAsg _ _) _ _ [some (.ref t), some (.int m), some (.ref c), some (.int a)] H5
        refine s_setL (xs := (a :: l).map V.int) (j := 0) (v := .int (a / (m : Int))) (e25 _ _ hc2) (EvD.evI (ed_I (C := CDiv) (g := fun i j => i / j) (ed_var rfl (.int _)) (ed_var rfl (.int _)) ⟨by omega, by omega⟩)) (ev_var rfl) ev_c (by simp) ?_
        intro H6 e6
        have e26 := e25.trans e6
        refine s_retD (ed_I (C := fun _ j => 0 < j) (g := fun i j => i % j) (ed_int1 (ed_var rfl (.int _))) (ed_var rfl (.int _)) (by omega)) ?_
        intro v H7 e7 iv
        have ev := iv.i
        subst ev
        have pa := hp2 a (List.mem_cons_self ..)
        have m1 := Int.emod_nonneg a (show (m : Int) ≠ 0 by omega)
        have m2 := Int.emod_lt_of_pos a (show (0 : Int) < m by omega)
        have em : a % (m : Int) = ((a % (m : Int)).toNat : Int) := by omega
        rw [em]
        refine k _ (by omega) H7 ⟨((e2.trans (ExM.of e26)).trans (ExM.upd (e26 _ _ hc2) (by simp))).trans (ExM.of e7), Tape.ex ⟨hne, ⟨s, by rw [upd_ne hne]; exact e26 _ _ ht2, hs1, hs2⟩, ⟨a / (m : Int) :: l, upd_same, by have : (a :: l).length = (a / (m : Int) :: l).length := rfl; omega, fun n hn => ?_⟩⟩ e7⟩
        rcases List.mem_cons.mp hn with rfl | hn
        · exact Int.ediv_nonneg pa (by omega)
        · exact hp2 n (List.mem_cons_of_mem _ hn)
    · intro hg H4 e4
      have e24 := e3.trans e4
      have hix : ∀ {b : Option V} {H5 : Hp} {z : Int}, H5 t = some (.lst [.ref c, .int z]) → EvD (tOp (rIxL K) (tVar 0) (tC (.int 1))) [some (.ref t), some (.int m), some (.ref c), b] H5 (.int z) := fun h => EvD.of_ev (ev_op (ev_var rfl) ev_c (rv_ixL (SqL.of h) (v := .int _) rfl)) (.int _)
      have m1 := Int.emod_nonneg (s * 48271 + 12345) (show (2147483647 : Int) ≠ 0 by decide)
      have m2 := Int.emod_lt_of_pos (s * 48271 + 12345) (show (0 : Int) < 2147483647 by decide)
      show tSeq (tAsg _ _) _ _ [some (.ref t), some (.int m), some (.ref c), none] H4
      refine s_setL (xs := [.ref c, .int s]) (j := 1) (v := .int ((s * 48271 + 12345) % 2147483647)) (e24 _ _ ht2) (EvD.evI (ed_I (C := fun _ j => 0 < j) (g := fun i j => i % j) (ed_int1 (ed_I0 (ed_I (C := CMul) (g := fun i j => i * j) (hix (e24 _ _ ht2)) (ed_i 48271) (.inr ⟨by omega, by omega⟩)) (ed_i 12345))) (ed_i 2147483647) (by decide))) (ev_var rfl) ev_c (by simp) ?_
      intro H5 e5
      have e25 := e24.trans e5
      refine s_retD (ed_I (C := fun _ j => 0 < j) (g := fun i j => i % j) (ed_int1 (ed_I (C := CDiv) (g := fun i j => i / j) (hix upd_same) (ed_i 64) ⟨by omega, by omega⟩)) (ed_var rfl (.int _)) (by omega)) ?_
      intro v H6 e6 iv
      have ev := iv.i
      subst ev
      have z1 := Int.emod_nonneg ((s * 48271 + 12345) % 2147483647 / 64) (show (m : Int) ≠ 0 by omega)
      have z2 := Int.emod_lt_of_pos ((s * 48271 + 12345) % 2147483647 / 64) (show (0 : Int) < m by omega)
      have em : (s * 48271 + 12345) % 2147483647 / 64 % (m : Int) = (((s * 48271 + 12345) % 2147483647 / 64 % (m : Int)).toNat : Int) := by omega
      rw [em]
      refine k _ (by omega) H6 ⟨((e2.trans (ExM.of e25)).trans (ExM.upd (e25 _ _ ht2) (by simp))).trans (ExM.of e6), Tape.ex ⟨hne, ⟨_, upd_same, m1, by omega⟩, ⟨ns, by rw [upd_ne (fun z => hne z.symm)]; exact e25 _ _ hc2, hl2, hp2⟩⟩ e6⟩
theorem cal__law_pick (S : Src K mg "_law_pick" st__law_pick ["tape", "row"]) (T : Txt K mg) (C__law_draw : Cal P w K mg base CX0 1 "_law_draw" ["tape", "many"] sp_draw) : Cal P w K mg base CX0 2 "_law_pick" ["tape", "row"] sp_pick := by
  have sc := sc__law_pick
  refine S.cal (k := 1) sc (fun vs H Q E h => by obtain ⟨_, _, _, _, rfl, _⟩ := h; rfl) (fun f cdv A outer s H vs Q E hr h => ⟨_, (pss_one (ps_ret (pe_ix (k_ix_list (K := K) rfl) (pv 1) (pe_cal C__law_draw (hr.mono (by first | decide | omega)) rfl pass0 (pa_cons (pv 0) (pa_cons (pe_callB (k_len_seq (K := K) rfl) (by rfl) T.n_len PySem.boot_len (pa_cons (pv 1) pa_nil)) pa_nil))) (fun _ _ => rfl)))), ?_⟩)
  obtain ⟨t, c, p, xs, rfl, T0, hp, hx, hne, hl, k⟩ := h
  refine s_retOp (ev_var rfl) fun H1 e1 => ?_
  have T1 := T0.ex e1
  refine drawn rfl T1 (m := xs.length) (EvD.of_ev (ev_len (ev_var rfl) (SqL.of (e1 _ _ hx))) (.int _)) (by cases xs with | nil => exact absurd rfl hne | cons a l => simp) hl ?_
  intro r hr' H2 g
  have hg : xs[r]? = some xs[r] := List.getElem?_eq_getElem hr'
  refine ⟨p, xs, (r : Int), xs[r], rfl, rfl, SqL.of (g.at hp (e1 _ _ hx)), ?_, k r _ hg H2 ((Go.of T0 e1).trans g)⟩
  unfold atI
  rw [ixN_nat hr']
  exact hg
end
end K35
set_option Elab.async false
set_option linter.all false
set_option maxRecDepth 100000
set_option maxHeartbeats 4000000
namespace K35
open PySem PySem.Spec PyProof.Rows L2 Evl Pd
/-- data that is compared -/
inductive OkS : Nat → PyData → Prop
  | str (n : Nat) (s : Str) : PyData.strOk s = true → OkS n (.str s)
  | int (n : Nat) (i : Int) : OkS n (.int i)
  | non (n : Nat) : OkS n .none
  | tup (n : Nat) (ds : List PyData) : ds.length ≤ 1000 → (∀ x ∈ ds, OkS n x) → OkS (n + 1) (.tuple ds)
def sp_same (n : Nat) : Sp := SpQ fun ds d => ∃ x, ds = [x, x] ∧ OkS n x ∧ d = .bool true
section
variable {P : Program} {w : World} {K : PySem.W.Frag} {mg : Str → Option Value} {base : Heap}
theorem cal_false {x : Str} {st : Stmt} {ps : List Str} {CX : CXT} {k : Nat} (S : Src K mg x st ps) : Cal P w K mg base CX k x ps (fun _ _ _ _ => False) := by
  obtain ⟨f, fd, hm, hF, hb⟩ := S.ex
  exact ⟨f, fd, hm, hF.kp, hb, ⟨fun _ _ _ _ h => h.elim, fun _ _ _ _ _ _ _ _ _ _ _ _ _ h => h.elim⟩⟩
/-- the recursive step -/
theorem same_step (S : Src K mg "_law_same" st__law_same ["one", "other"]) (T : Txt K mg) {k n : Nat} {sp : Sp} (C__law_same : Cal P w K mg base CX0 k "_law_same" ["one", "other"] sp) (hn : ∀ m, n = m + 1 → sp = sp_same m) : Cal P w K mg base CX0 (k + 1) "_law_same" ["one", "other"] (sp_same n) := by
  have sc := sc__law_same
  refine S.cal (k := k) sc (SpQ.len fun ds d h => by obtain ⟨s, rfl, _⟩ := h; rfl) (fun f cdv A outer s H vs Q E hr h => ⟨_, (pss_cons (ps_if (PW.pt (pw_or (pt_val (pe_callB (k_isi (K := K) rfl) (by rfl) T.n_isinstance (by decide +kernel) (pa_cons (pv 0) (pa_cons (pe_bltn (v := .ty "tuple") (by rfl) T.n_tuple (by decide +kernel) rfl) pa_nil)))) (pw_or1 (pt_val (pe_callB (k_isi (K := K) rfl) (by rfl) T.n_isinstance (by decide +kernel) (pa_cons (pv 1) (pa_cons (pe_bltn (v := .ty "tuple") (by rfl) T.n_tuple (by decide +kernel) rfl) pa_nil))))))) (pss_cons (ps_if (PW.pt (pw_or (pt_not (pt_val (pe_callB (k_isi (K := K) rfl) (by rfl) T.n_isinstance (by decide +kernel) (pa_cons (pv 0) (pa_cons (pe_bltn (v := .ty "tuple") (by rfl) T.n_tuple (by decide +kernel) rfl) pa_nil))))) (pw_or (pt_not (pt_val (pe_callB (k_isi (K := K) rfl) (by rfl) T.n_isinstance (by decide +kernel) (pa_cons (pv 1) (pa_cons (pe_bltn (v := .ty "tuple") (by rfl) T.n_tuple (by decide +kernel) rfl) pa_nil))))) (pw_or1 (pt_cmpR op_ne (pe_callB (k_len_seq (K := K) rfl) (by rfl) T.n_len PySem.boot_len (pa_cons (pv 0) pa_nil)) (pe_callB (k_len_seq (K := K) rfl) (by rfl) T.n_len PySem.boot_len (pa_cons (pv 1) pa_nil)) (nomark _)))))) (pss_one (ps_ret pe_bl)) pss_nil)
  (pss_one (ps_ret (pe_callB (k_all (K := K) rfl rfl) (by rfl) T.n_all (by decide +kernel) (pa_cons (pe_lc (own := [("k", 2)]) rfl sc.nd (pi_range1 (by rfl) T.n_range (pa_cons (pe_callB (k_len_seq (K := K) rfl) (by rfl) T.n_len PySem.boot_len (pa_cons (pv 0) pa_nil)) pa_nil)) (blkOk_by (by first | decide +kernel | kernel_rfl)) (fun _ _ _ _ _ => (pg_name (i := 2) sc.nd rfl (by first | exact Or.inl rfl | exact Or.inr rfl))) (fun _ _ _ _ _ => pts_nil) (fun _ _ _ _ _ => (pe_cal C__law_same (hr.mono (by first | decide | omega)) rfl pass0 (pa_cons (pe_ix (k_ix_tup (K := K) rfl) (pv 0) (pv 2) (fun _ _ => rfl)) (pa_cons (pe_ix (k_ix_tup (K := K) rfl) (pv 1) (pv 2) (fun _ _ => rfl)) pa_nil))))) pa_nil))))) pss_nil)
  (pss_cons (ps_if (PW.pt (pw_or (pt_cmpR op_ne (pe_callB (k_isi (K := K) rfl) (by rfl) T.n_isinstance (by decide +kernel) (pa_cons (pv 0) (pa_cons (pe_bltn (v := .ty "str") (by rfl) T.n_str (by decide +kernel) rfl) pa_nil))) (pe_callB (k_isi (K := K) rfl) (by rfl) T.n_isinstance (by decide +kernel) (pa_cons (pv 1) (pa_cons (pe_bltn (v := .ty "str") (by rfl) T.n_str (by decide +kernel) rfl) pa_nil))) (nomark _)) (pw_or1 (pt_cmpR op_ne (pe_callB (k_isi (K := K) rfl) (by rfl) T.n_isinstance (by decide +kernel) (pa_cons (pv 0) (pa_cons (pe_bltn (v := .ty "int") (by rfl) T.n_int (by decide +kernel) rfl) pa_nil))) (pe_callB (k_isi (K := K) rfl) (by rfl) T.n_isinstance (by decide +kernel) (pa_cons (pv 1) (pa_cons (pe_bltn (v := .ty "int") (by rfl) T.n_int (by decide +kernel) rfl) pa_nil))) (nomark _))))) (pss_one (ps_ret pe_bl)) pss_nil)
  (pss_one (ps_ret (pe_cmpR (k_eqD (K := K) rfl (hr.units)) (pv 0) (pv 1) (nomark _)))))), ?_⟩)
  obtain ⟨ds, d, i, ⟨x, rfl, ok, rfl⟩, kk⟩ := h
  obtain ⟨v, w', rfl, iv, iw⟩ := i.two
  have h0 : ∀ {a : Option V} {H1}, Ex H H1 → EvD (tVar 0) [some v, some w', a] H1 x := fun e => ed_var rfl (iv.mono e)
  have h1 : ∀ {a : Option V} {H1}, Ex H H1 → EvD (tVar 1) [some v, some w', a] H1 x := fun e => ed_var rfl (iw.mono e)
  show tSeq _ _ _ [some v, some w', none] H
  have leaf : ∀ {tq : TS}, (∃ ty, tyN x = ty ∧ kitB ty "tuple" = some false ∧ ∃ b1 b2, kitB ty "str" = some b1 ∧ kitB ty "int" = some b2) → SeqAt.shaped x = true → PyData.eqv x x = true → tSeq (tIfS (tOr (tB (tCB (rIsi K) (tCons (tVar 0) (tCons (tC (.ty "tuple")) tNil)))) (tB (tCB (rIsi K) (tCons (tVar 1) (tCons (tC (.ty "tuple")) tNil))))) tq tNext) (tSeq (tIfS (tOr (tTest (tOp rNe (tCB (rIsi K) (tCons (tVar 0) (tCons (tC (.ty "str")) tNil))) (tCB (rIsi K) (tCons (tVar 1) (tCons (tC (.ty "str")) tNil))))) (tTest (tOp rNe (tCB (rIsi K) (tCons (tVar 0) (tCons (tC (.ty "int")) tNil))) (tCB (rIsi K) (tCons (tVar 1) (tCons (tC (.ty "int")) tNil)))))) (tRet (tC (.bl false))) tNext) (tRet (tOp (rEqD K) (tVar 0) (tVar 1)))) { nx := fun x H' => Q V.non H', rt := Q } [some v, some w', none] H := by
    rintro tq ⟨ty, et, k1, b1, b2, k2, k3⟩ sh eq
    subst et
    refine q_when (et_or (et_DB (ed_isi (h0 (Ex.refl H)) k1)) (fun _ => et_DB (ed_isi (h1 (Ex.refl H)) k1))) (fun z => by cases z) ?_
    intro _ H1 e1
    refine q_when (et_or (et_D (ed_neB (ed_isi (h0 e1) k2) (ed_isi (h1 e1) k2))) (fun _ => et_D (ed_neB (ed_isi (h0 e1) k3) (ed_isi (h1 e1) k3)))) (fun z => by simp at z) ?_
    intro _ H2 e2
    refine s_retD (ed_eqD (h0 (e1.trans e2)) (h1 (e1.trans e2)) sh sh) ?_
    intro v2 H3 e3 iv3
    rw [eq] at iv3
    exact kk v2 H3 ((e1.trans e2).trans e3) iv3
  cases ok with
  | str _ s hs =>
    refine leaf ⟨"str", rfl, kt_str_tuple, true, false, kt_str_str, kt_str_int⟩ ?_ ?_
    · simp [SeqAt.shaped, PyData.canLay0, PyData.depth, hs]
    · simp [PyData.eqv]
  | int _ i =>
    refine leaf ⟨"int", rfl, kt_int_tuple, false, true, kt_int_str, kt_int_int⟩ ?_ ?_
    · simp [SeqAt.shaped, PyData.canLay0, PyData.depth]
    · simp [PyData.eqv]
  | non _ =>
    refine leaf ⟨"NoneType", rfl, kt_NoneType_tuple, false, false, kt_NoneType_str, kt_NoneType_int⟩ ?_ ?_
    · simp [SeqAt.shaped, PyData.canLay0, PyData.depth]
    · simp [PyData.eqv]
  | tup m ds hl hm =>
    have esp := hn m rfl
    subst esp
    refine q_when (b := true) (et_or (a := true) (b := true) (et_DB (ed_isi (h0 (Ex.refl H)) kt_tuple_tuple)) (fun z => by cases z)) ?_ (fun z => by cases z)
    intro _ H1 e1
    refine q_when (b := false) (et_is (et_or (et_not (et_DB (ed_isi (h0 e1) kt_tuple_tuple))) (fun _ => et_or (et_not (et_DB (ed_isi (h1 e1) kt_tuple_tuple))) (fun _ => et_D (ed_neI (ed_lenT (h0 e1)) (ed_lenT (h1 e1)))))) (by simp)) (fun z => by cases z) ?_
    intro _ H2 e2
    have e02 := e1.trans e2
    refine s_retD (ed_all (bs := (List.range ds.length).map fun _ => true) (EvD.is (en_lcM (l := List.range ds.length) (emb := fun i => .int (i : Nat)) (fun _ => .bool true) (wm_range (ea1 (ed_lenT (h0 e02)) ea0) (by omega)).wk (by rw [List.length_range]; omega) (fun j hj z H3 e3 iz => ?_) (fun _ _ => rfl)).toD (by rw [List.map_map]; rfl))) ?_
    · have hj' : j < ds.length := List.mem_range.mp hj
      have hg : ds[j]? = some ds[j] := List.getElem?_eq_getElem hj'
      exact ed_callQ (ea1 (ed_ixT (h0 (e02.trans e3)) (ed_var rfl iz) (atI_nat hg)) (ea1 (ed_ixT (h1 (e02.trans e3)) (ed_var rfl iz) (atI_nat hg)) ea0)) ⟨ds[j], rfl, hm _ (List.mem_of_getElem? hg), rfl⟩
    · intro v2 H3 e3 iv3
      rw [all_true] at iv3
      exact kk v2 H3 (e02.trans e3) iv3
theorem cal__law_same (S : Src K mg "_law_same" st__law_same ["one", "other"]) (T : Txt K mg) : ∀ n, Cal P w K mg base CX0 (n + 1) "_law_same" ["one", "other"] (sp_same n)
  | 0 => same_step S T (k := 0) (sp := fun _ _ _ _ => False) (cal_false S) (fun m h => by omega)
  | n + 1 => same_step S T (k := n + 1) (cal__law_same S T n) (fun m h => by
      have : n = m := by omega
      rw [this])
end
end K35
set_option Elab.async false
set_option linter.all false
set_option maxRecDepth 100000
set_option maxHeartbeats 2000000
/-! ML: the tables of the law. -/
namespace K35
open PySem PySem.Spec PyProof.Rows L2 Evl Pd
def N3 : List Str := ["a", "leaf", "node"]
def W9 : List Str := ["integer", "none", "a", "leaf", "node", "other", "xx", "yy"]
theorem n3_ok : ∀ n ∈ N3, isName n = true ∧ n.length ≤ 4 ∧ PyData.strOk n = true := by
  have : N3.all (fun n => isName n && (decide (n.length ≤ 4) && PyData.strOk n)) = true := by decide +kernel
  intro n hn
  have := List.all_eq_true.mp this n hn
  simpa [and_assoc] using this
theorem w9_ok : ∀ w ∈ W9, w.length ≤ 7 ∧ PyData.strOk w = true := by
  have : W9.all (fun w => decide (w.length ≤ 7) && PyData.strOk w) = true := by decide +kernel
  intro w hw
  have := List.all_eq_true.mp this w hw
  simpa using this
/-- the tables of the law -/
structure LT (t : List TRow) : Prop where
  names : ∃ n, 1 ≤ n ∧ n ≤ 3 ∧ namesOf t = N3.take n
  rows : ∀ r ∈ t, r.2 ≠ [] ∧ r.2.length ≤ 2 ∧ ∀ e ∈ r.2, e ≠ [] ∧ e.length ≤ 3 ∧ (∀ w ∈ e, w ∈ W9) ∧ isEntry e (namesOf t) = true
theorem LT.len {t : List TRow} (h : LT t) : 1 ≤ t.length ∧ t.length ≤ 3 := by
  obtain ⟨n, h1, h2, h3⟩ := h.names
  have : (namesOf t).length = (N3.take n).length := by rw [h3]
  rw [List.length_take] at this
  simp only [namesOf, List.length_map] at this
  have e : N3.length = 3 := rfl
  omega
theorem LT.n3 {t : List TRow} (h : LT t) {r : TRow} (hr : r ∈ t) : r.1 ∈ N3 := by
  obtain ⟨n, h1, h2, h3⟩ := h.names
  have : r.1 ∈ namesOf t := List.mem_map.mpr ⟨r, hr, rfl⟩
  rw [h3] at this
  exact List.mem_of_mem_take this
theorem n3_take (n : Nat) (h1 : 1 ≤ n) (h2 : n ≤ 3) : ((N3.take n).all isName && asc (N3.take n)) = true := by
  have : ([1, 2, 3] : List Nat).all (fun n => (N3.take n).all isName && asc (N3.take n)) = true := by decide +kernel
  exact List.all_eq_true.mp this n (by simp; omega)
theorem LT.isT {t : List TRow} (h : LT t) : isTable t = true := by
  obtain ⟨n, h1, h2, h3⟩ := h.names
  have a := n3_take n h1 h2
  rw [← h3, Bool.and_eq_true] at a
  unfold isTable
  rw [a.1, a.2]
  have : t.all (rowOk (namesOf t)) = true := by
    rw [List.all_eq_true]
    intro r hr
    have b := h.rows r hr
    unfold rowOk
    have e1 : r.2.isEmpty = false := by
      cases c : r.2 with
      | nil => exact absurd c b.1
      | cons x l => rfl
    have e2 : (r.2.all fun e => isEntry e (namesOf t)) = true := List.all_eq_true.mpr fun e he => (b.2.2 e he).2.2.2
    rw [e1, e2]; rfl
  rw [this]; rfl
theorem LT.gt {t : List TRow} (h : LT t) : GoodT t := ⟨by have := h.len; omega, fun r hr => ⟨by have := (n3_ok r.1 (h.n3 hr)).2.1; omega, by have := (h.rows r hr).2.1; omega, fun e he => ⟨by have := ((h.rows r hr).2.2 e he).2.1; omega, fun w hw => (w9_ok w (((h.rows r hr).2.2 e he).2.2.1 w hw)).2⟩⟩⟩
end K35
set_option Elab.async false
set_option linter.all false
set_option maxRecDepth 100000
set_option maxHeartbeats 2000000
/-! M3: the plain law, how entries and tables come about. -/
namespace K35
open PySem PySem.Spec PyProof.Rows L2 Evl Pd
def W5 : List Str := ["integer", "none", "a", "leaf", "node"]
theorem w5_lt : W5.all (fun a => W5.all fun b => ltCps b.cps.toList a.cps.toList || (decide (a = b) || ltS a b)) = true := by decide +kernel
theorem w5_up {a b : Str} (ha : a ∈ W5) (hb : b ∈ W5) (h : (!ltCps b.cps.toList a.cps.toList) = true) (hne : a ≠ b) : ltS a b = true := by
  have := List.all_eq_true.mp (List.all_eq_true.mp w5_lt a ha) b hb
  have h' : ltCps b.cps.toList a.cps.toList = false := by simpa using h
  rw [h', Bool.false_or, decide_eq_false hne, Bool.false_or] at this
  exact this
theorem asc_of : ∀ {e : List Str}, (∀ w ∈ e, w ∈ W5) → sortedS e = true → e.Nodup → asc e = true
  | [], _, _, _ => rfl
  | [a], _, _, _ => rfl
  | a :: b :: r, hw, hs, hn => by
    have hs' : (!ltCps b.cps.toList a.cps.toList && risingS b r) = true := hs
    obtain ⟨h1, h2⟩ := Bool.and_eq_true_iff.mp hs'
    have hn' := List.nodup_cons.mp hn
    have ih : asc (b :: r) = true := asc_of (fun w hw' => hw w (List.mem_cons_of_mem _ hw')) h2 hn'.2
    have hlt : ltS a b = true := w5_up (hw a (List.mem_cons_self ..)) (hw b (by simp)) h1 (fun z => hn'.1 (by rw [z]; exact List.mem_cons_self ..))
    show (ltS a b && ((b :: r).zip r).all fun p => ltS p.1 p.2) = true
    rw [hlt]
    exact ih
def EntryOk (ns e : List Str) : Prop := e ≠ [] ∧ e.length ≤ 3 ∧ (∀ w ∈ e, w ∈ W9) ∧ isEntry e ns = true
/-- what the law's words are: some of integer, none; and perhaps a name -/
def WordsOk (ns ws : List Str) : Prop := ws ≠ [] ∧ ∃ bs : List Str, bs.Sublist ["integer", "none"] ∧ (ws = bs ∨ ∃ x ∈ ns, ws = bs ++ [x])
theorem sub_in {bs : List Str} (h : bs.Sublist ["integer", "none"]) : bs ∈ ([[], ["integer"], ["none"], ["integer", "none"]] : List (List Str)) := by
  cases h with
  | cons _ h =>
    cases h with
    | cons _ h => cases h; simp
    | cons_cons _ h => cases h; simp
  | cons_cons _ h =>
    cases h with
    | cons _ h => cases h; simp
    | cons_cons _ h => cases h; simp
theorem words_fin : ([[], ["integer"], ["none"], ["integer", "none"]] : List (List Str)).all (fun bs => (decide bs.Nodup && (decide (bs.length ≤ 2) && (bs.all (fun w => decide (w ∈ W5)) && (restOf bs).isEmpty))) && N3.all fun x => decide ((bs ++ [x]).Nodup) && (decide (x ∈ W5) && decide (restOf [x] = [x]))) = true := by decide +kernel
theorem w59 : W5.all (fun w => decide (w ∈ W9)) = true := by decide +kernel
theorem entry_ok {ns ws e : List Str} (hn : ∀ x ∈ ns, x ∈ N3) (h : WordsOk ns ws) (hp : e.Perm ws) (hs : sortedS e = true) : EntryOk ns e := by
  obtain ⟨hne, bs, hb, hw⟩ := h
  have F := List.all_eq_true.mp words_fin bs (sub_in hb)
  simp only [Bool.and_eq_true, decide_eq_true_eq, List.all_eq_true, List.isEmpty_iff] at F
  obtain ⟨⟨f1, f2, f3, f4⟩, f5⟩ := F
  have key : ws.Nodup ∧ ws.length ≤ 3 ∧ (∀ w ∈ ws, w ∈ W5) ∧ (restOf ws).length ≤ 1 ∧ ∀ w ∈ restOf ws, w ∈ ns := by
    rcases hw with rfl | ⟨x, hx, rfl⟩
    · exact ⟨f1, by omega, f3, by rw [f4]; simp, by rw [f4]; intro w hw; cases hw⟩
    · obtain ⟨g1, g2, g3⟩ := f5 x (hn x hx)
      have er : restOf (bs ++ [x]) = [x] := by
        unfold restOf at f4 g3 ⊢
        rw [List.filter_append, f4, g3]; rfl
      refine ⟨g1, by rw [List.length_append]; show _ + 1 ≤ 3; omega, fun w hw => ?_, by rw [er]; simp, fun w hw => ?_⟩
      · rcases List.mem_append.mp hw with hw | hw
        · exact f3 w hw
        · have : w = x := by simpa using hw
          rw [this]; exact g2
      · rw [er] at hw
        have : w = x := by simpa using hw
        rw [this]; exact hx
  obtain ⟨k1, k2, k3, k4, k5⟩ := key
  have e5 : ∀ w ∈ e, w ∈ W5 := fun w hw => k3 w (hp.mem_iff.mp hw)
  have hr : (restOf e).Perm (restOf ws) := hp.filter _
  refine ⟨fun z => ?_, by rw [hp.length_eq]; exact k2, fun w hw => of_decide_eq_true (List.all_eq_true.mp w59 w (e5 w hw)), ?_⟩
  · subst z
    exact hne (List.length_eq_zero_iff.mp hp.length_eq.symm)
  · unfold isEntry
    have a1 : e.isEmpty = false := by
      cases c : e with
      | nil =>
        subst c
        exact absurd (List.length_eq_zero_iff.mp hp.length_eq.symm) hne
      | cons a l => rfl
    rw [a1, asc_of e5 hs (hp.nodup_iff.mpr k1), decide_eq_true (by have := hr.length_eq; omega)]
    have : ((restOf e).all fun w => decide (w ∈ ns)) = true := List.all_eq_true.mpr fun w hw => decide_eq_true (k5 w (hr.mem_iff.mp hw))
    rw [this]; rfl
/-- a table that is made row by row -/
theorem lt_of {t : List TRow} {n : Nat} (h1 : 1 ≤ n) (h2 : n ≤ 3) (hn : namesOf t = N3.take n) (h : ∀ r ∈ t, r.2 ≠ [] ∧ r.2.length ≤ 2 ∧ ∀ e ∈ r.2, EntryOk (N3.take n) e) : LT t :=
  ⟨⟨n, h1, h2, hn⟩, fun r hr => ⟨(h r hr).1, (h r hr).2.1, fun e he => by rw [hn]; exact (h r hr).2.2 e he⟩⟩
end K35
set_option Elab.async false
set_option linter.all false
set_option maxRecDepth 100000
set_option maxHeartbeats 4000000
namespace K35
open PySem PySem.Spec PyProof.Rows L2 Evl Pd
def sp_law_table : Sp := fun vs H Q _ => ∃ t c, vs = [.ref t] ∧ Tape t c H ∧ ∀ (tb : List TRow) v H', LT tb → Go t c H H' → Im H' v (eT tb) → Q v H'
section
variable {P : Program} {w : World} {K : PySem.W.Frag} {mg : Str → Option Value} {base : Heap} {CT : Addr}
theorem cal__law_table (S : Src K mg "_law_table" st__law_table ["tape"]) (T : Txt K mg) (C__law_draw : Cal P w K mg base CX0 1 "_law_draw" ["tape", "many"] sp_draw) (C__law_pick : Cal P w K mg base CX0 2 "_law_pick" ["tape", "row"] sp_pick) : Cal P w K mg base CX0 3 "_law_table" ["tape"] sp_law_table := by
  have sc := sc__law_table
  refine S.cal (k := 2) sc (fun vs H Q E h => by obtain ⟨_, _, rfl, _⟩ := h; rfl) (fun f cdv A outer s H vs Q E hr h => ⟨_, (pss_cons (ps_set (i := 1) sc.nd rfl (by first | exact Or.inl rfl | exact Or.inr rfl) (pe_slice (k_sl_list (K := K) rfl) (pe_lst (pa_cons pe_str (pa_cons pe_str (pa_cons pe_str pa_nil)))) po_none (po_some (pe_op op_add pe_int (pe_cal C__law_draw (hr.mono (by first | decide | omega)) rfl pass0 (pa_cons (pv 0) (pa_cons pe_int pa_nil)))))))
  (pss_cons (ps_set (i := 2) sc.nd rfl (by first | exact Or.inl rfl | exact Or.inr rfl) (pe_lst pa_nil))
  (pss_cons (ps_for PassesOwn.never rfl (k_pi_list (K := K) rfl (pv 1)) (pg_name (i := 3) sc.nd rfl (by first | exact Or.inl rfl | exact Or.inr rfl)) (pss_cons (ps_set (i := 4) sc.nd rfl (by first | exact Or.inl rfl | exact Or.inr rfl) (pe_lst pa_nil))
  (pss_cons (ps_for PassesOwn.never rfl (pi_range1 (by rfl) T.n_range (pa_cons (pe_op op_add pe_int (pe_cal C__law_draw (hr.mono (by first | decide | omega)) rfl pass0 (pa_cons (pv 0) (pa_cons pe_int pa_nil)))) pa_nil)) (pg_name (i := 5) sc.nd rfl (by first | exact Or.inl rfl | exact Or.inr rfl)) (pss_cons (ps_setLc (i := 6) (own := [("word", 7)]) rfl sc.nd rfl rfl (sw_true rfl rfl rfl (by decide +kernel)) (k_pi_list (K := K) rfl (pe_lst (pa_cons pe_str (pa_cons pe_str pa_nil)))) (blkOk_by (by first | decide +kernel | kernel_rfl)) (fun _ _ _ _ _ => (pg_name (i := 7) sc.nd rfl (by first | exact Or.inl rfl | exact Or.inr rfl))) (fun _ _ _ _ _ => (pts_one (pt_cmpR op_eq (pe_cal C__law_draw (hr.mono (by first | decide | omega)) rfl pass0 (pa_cons (pv 0) (pa_cons pe_int pa_nil))) pe_int (nomark _)))) (fun _ _ _ _ _ => (pv 7)))
  (pss_cons (ps_if (PW.pt (pw_or (pt_cmpR op_eq (pe_callB (k_len_seq (K := K) rfl) (by rfl) T.n_len PySem.boot_len (pa_cons (pv 6) pa_nil)) pe_int (nomark _)) (pw_or1 (pt_cmpR op_eq (pe_cal C__law_draw (hr.mono (by first | decide | omega)) rfl pass0 (pa_cons (pv 0) (pa_cons pe_int pa_nil))) pe_int (nomark _))))) (pss_one (ps_expr (k_append (K := K) rfl (pv 6) (pa_cons (pe_cal C__law_pick (hr.mono (by first | decide | omega)) rfl pass0 (pa_cons (pv 0) (pa_cons (pv 1) pa_nil))) pa_nil)))) pss_nil)
  (pss_one (ps_expr (k_append (K := K) rfl (pv 4) (pa_cons (pe_callTy (k_tuple_of (K := K) rfl) (by rfl) T.n_tuple (by decide +kernel) (pa_cons (pe_callB (k_sortedS (K := K) rfl) (by rfl) T.n_sorted (by decide +kernel) (pa_cons (pv 6) pa_nil)) pa_nil)) pa_nil)))))))
  (pss_one (ps_expr (k_append (K := K) rfl (pv 2) (pa_cons (pe_tup (pa_cons (pv 3) (pa_cons (pe_callTy (k_tuple_of (K := K) rfl) (by rfl) T.n_tuple (by decide +kernel) (pa_cons (pv 4) pa_nil)) pa_nil))) pa_nil)))))))
  (pss_one (ps_ret (pe_callTy (k_tuple_of (K := K) rfl) (by rfl) T.n_tuple (by decide +kernel) (pa_cons (pv 2) pa_nil))))))), ?_⟩)
  obtain ⟨t, c, rfl, T0, kk⟩ := h
  show tSeq _ _ _ [some (.ref t), none, none, none, none, none, none, none] H
  refine q_asgRun (sl_runN (en_lst (ea1 (ed_s _) (ea1 (ed_s _) (ea1 (ed_s _) ea0))) (by show 3 ≤ 100000; omega)) ?_)
  intro p0 xs0 H1 np0 e1 g1 g2
  have exs := Ims.strs (ss := N3) g2
  subst exs
  refine part_run (one_more (m := 3) rfl (T0.ex e1) (by omega) (by omega) ?_)
  intro r hr3 H2 go2
  refine ⟨_, rfl, p0, _, rfl, SqL.of (go2.at (T0.notin np0) g1), fun N hN => ?_⟩
  have GA : Go t c H H2 := (Go.of T0 e1).trans go2
  have T2 := GA.2
  have nN := T2.notin hN
  -- the names
  generalize hns : N3.take (1 + r) = ns
  have hcut : cutV (N3.map V.str) none (some ((1 + r : Nat) : Int)) = ns.map V.str := by rw [cutV_to, ← List.map_take, hns]
  have n3 : ∀ x ∈ ns, x ∈ N3 := fun x hx => by rw [← hns] at hx; exact List.mem_of_mem_take hx
  have nl : ns.length ≤ 3 := by rw [← hns, List.length_take]; exact Nat.min_le_right _ _
  have nne : ns ≠ [] := fun z => by
    have : (N3.take (1 + r)).length = 0 := by rw [hns, z]; rfl
    rw [List.length_take] at this
    have e3 : N3.length = 3 := rfl
    omega
  have hN3 : ∀ (o : HO), o = .lst (cutV (N3.map V.str) none (some ((1 + r : Nat) : Int))) → L2.upd H2 N o N = some (.lst (ns.map V.str)) := fun o ho => by rw [upd_same, ho, hcut]
  have gN : L2.upd H2 N (.lst (cutV (N3.map V.str) none (some ((1 + r : Nat) : Int)))) N = some (.lst (ns.map V.str)) := hN3 _ rfl
  generalize hH3 : L2.upd H2 N (.lst (cutV (N3.map V.str) none (some ((1 + r : Nat) : Int)))) = H3 at gN
  have G3 : Go t c H H3 := by rw [← hH3]; exact GA.ex (Ex.new hN)
  show tSeq _ _ _ [some (.ref t), some (.ref N), none, none, none, none, none, none] H3
  refine q_asgN (en_lst ea0 (by show 0 ≤ 100000; omega)) ?_
  intro R xs1 H4 nR e34 g3 g4
  cases g4
  have G4 : Go t c H H4 := G3.ex e34
  have nRin := G3.2.notin nR
  have gN4 := e34 _ _ gN
  have neNR : N ≠ R := fun z => by rw [z, nR] at gN; cases gN
  show tSeq (tFor _ _ _) _ _ [some (.ref t), some (.ref N), some (.ref R), none, none, none, none, none] H4
  -- over the names
  have nNR : N ∉ [t, c, R] := fun z => by
    rcases List.mem_cons.mp z with z | z
    · exact nN (by rw [z]; simp)
    · rcases List.mem_cons.mp z with z | z
      · exact nN (by rw [z]; simp)
      · exact neNR (by simpa using z)
  have subR : ∀ a ∈ [t, c], a ∈ [t, c, R] := fun a ha => by simp at ha ⊢; rcases ha with h | h <;> simp [h]
  refine q_forR [t, c, R] (run_of (wm_at (ds := ns.map .str) (xs := ns.map V.str) (ev_var rfl) gN4 (Ims.ofStrs ns) nNR (stills_of fun _ _ => rfl))) ?_
  rintro src H5 ⟨rfl, e45⟩
  refine ⟨fun i σ' H' => (∃ a b d e, σ' = [some (.ref t), some (.ref N), some (.ref R), a, b, d, e, none]) ∧ Go t c H3 H' ∧ ∃ rows : List TRow, rows.map (·.1) = ns.take i ∧ (∀ r ∈ rows, r.2 ≠ [] ∧ r.2.length ≤ 2 ∧ ∀ e ∈ r.2, EntryOk ns e) ∧ ∃ acc, H' R = some (.lst acc) ∧ acc.length ≤ i ∧ Ims H' acc (rows.map eRow),
    ⟨⟨none, none, none, none, rfl⟩, Go.of G3.2 (e34.trans e45), [], by simp, fun r hr => (by cases hr), [], e45 _ _ g3, Nat.le_refl _, .nil⟩,
    fun i σ' Ha Hb ⟨q1, q2, rows, q3, q4, acc, q5, q6, q7⟩ e => ⟨q1, q2.ex e, rows, q3, q4, acc, e _ _ q5, q6, q7.mono e⟩, ?_, ?_⟩
  · rintro i d x σ' Ha Hb hd eab ix ⟨⟨v1, v2, v3, v4, rfl⟩, GB, rows, q3, q4, acc, q5, q6, q7⟩
    obtain ⟨s1, hs1, rfl⟩ := map_inv hd
    have ex1 := ix.s
    subst ex1
    have hi3 : i < 3 := by have := (List.getElem?_eq_some_iff.mp hs1).1; omega
    show tSeq _ _ _ [some (.ref t), some (.ref N), some (.ref R), some (.str s1), v2, v3, v4, none] Hb
    refine q_asgN (en_lst ea0 (by show 0 ≤ 100000; omega)) ?_
    intro Ea xs2 Hc nE ebc g5 g6
    cases g6
    have GC := GB.ex ebc
    have nEin := GB.2.notin nE
    have neRE : R ≠ Ea := fun z => by rw [z, nE] at q5; cases q5
    have gNb : Hb N = some (.lst (ns.map V.str)) := GB.at nN gN
    have neNE : N ≠ Ea := fun z => by rw [z, nE] at gNb; cases gNb
    show tSeq (tFor _ _ _) _ _ [some (.ref t), some (.ref N), some (.ref R), some (.str s1), some (.ref Ea), v3, v4, none] Hc
    refine q_forR [t, c, Ea] (C := fun src H2 => ∃ r, r < 2 ∧ src = (List.range (1 + r)).map (fun i => PyData.int (i : Nat)) ∧ Go t c Hc H2) (run_range (fun Q qq => one_more (m := 2) rfl GC.2 (by omega) (by omega) fun r hr H' g => qq (1 + r) H' (by omega) ⟨r, hr, rfl, g⟩)) ?_
    rintro src Hd ⟨r2, hr2, rfl, gcd⟩
    refine ⟨fun j σ' H' => (∃ a b, σ' = [some (.ref t), some (.ref N), some (.ref R), some (.str s1), some (.ref Ea), a, b, none]) ∧ Go t c Hb H' ∧ ∃ es : List (List Str), es.length = j ∧ (∀ e ∈ es, EntryOk ns e) ∧ ∃ acc, H' Ea = some (.lst acc) ∧ acc.length ≤ j ∧ Ims H' acc (es.map fun e => eS e),
      ⟨⟨v3, v4, rfl⟩, (Go.of GB.2 ebc).trans gcd, [], rfl, fun e he => (by cases he), [], gcd.at nEin g5, Nat.le_refl _, .nil⟩,
      fun j σ' Ha Hb ⟨p1, p2, es, p3, p4, acc, p5, p6, p7⟩ e => ⟨p1, p2.ex e, es, p3, p4, acc, e _ _ p5, p6, p7.mono e⟩, ?_, ?_⟩
    · rintro j d x σ' He Hf hd eef ix ⟨⟨u1, u2, rfl⟩, GF, es, p3, p4, acc2, p5, p6, p7⟩
      have hj : j < 2 := by
        have := (List.getElem?_eq_some_iff.mp hd).1
        rw [List.length_map, List.length_range] at this
        omega
      show tSeq _ _ _ [some (.ref t), some (.ref N), some (.ref R), some (.str s1), some (.ref Ea), some x, u2, none] Hf
      refine q_asgRun (lc_draws (m := 2) (l := ["integer", "none"]) (en_lst (ea1 (ed_s _) (ea1 (ed_s _) ea0)) (by show 2 ≤ 100000; omega)) (by simp) GF.2 (by omega) (by omega) (fun _ => rfl) (fun _ => rfl) (fun _ => rfl) ?_)
      intro W ws Hg gfg nW sub hW
      have GG := GF.trans gfg
      have nWin := GF.2.notin nW
      have neEW : Ea ≠ W := fun z => by rw [z, nW] at p5; cases p5
      have gNf : Hf N = some (.lst (ns.map V.str)) := GF.at nN gNb
      have neNW : N ≠ W := fun z => by rw [z, nW] at gNf; cases gNf
      have wl : ws.length ≤ 2 := sub.length_le
      show tSeq (tIfS _ _ _) _ _ [some (.ref t), some (.ref N), some (.ref R), some (.str s1), some (.ref Ea), some x, some (.ref W), none] Hg
      -- with the words done
      have fin : ∀ (D : Ends) (ws' : List Str) (Hh : Hp), (∀ σ3 H6, ((∃ a b, σ3 = [some (.ref t), some (.ref N), some (.ref R), some (.str s1), some (.ref Ea), a, b, none]) ∧ Go t c Hb H6 ∧ ∃ es : List (List Str), es.length = j + 1 ∧ (∀ e ∈ es, EntryOk ns e) ∧ ∃ acc, H6 Ea = some (.lst acc) ∧ acc.length ≤ j + 1 ∧ Ims H6 acc (es.map fun e => eS e)) ∧ ExM [t, c, Ea] He H6 → D.nx σ3 H6) → WordsOk ns ws' → ws'.length ≤ 3 → Go t c Hf Hh → Hh W = some (.lst (ws'.map V.str)) →
          tDrop (tBM K "list" rAppend (tVar 4) (tCons (tCB (rTupOf K) (tCons (tCB (rSortedS K) (tCons (tVar 6) tNil)) tNil)) tNil)) D [some (.ref t), some (.ref N), some (.ref R), some (.str s1), some (.ref Ea), some x, some (.ref W), none] Hh := by
        intro D ws' Hh hD wok wl' gfh hW'
        have gE : Hh Ea = some (.lst acc2) := gfh.at nEin p5
        refine s_appP (xs := acc2) gE (ev_var rfl) (ep_tupOf (enp_sorted (ss := ws') (ed_var rfl (.lst hW' (Ims.ofStrs ws'))) (by omega))) (fun d hd => ?_) (by omega) ?_
        · obtain ⟨ds, rfl, ys, rfl, _⟩ := hd
          exact stills_of fun _ _ => rfl
        · rintro v d Hi ehi gE2 ⟨ds, rfl, ys, rfl, perm, srt⟩ iv
          have eok := entry_ok n3 wok perm srt
          have GI : Go t c Hb Hi := (GF.trans gfh).ex ehi
          refine hD _ _ ⟨⟨⟨_, _, rfl⟩, GI.mut GB.2 nE, es ++ [ys], by rw [List.length_append, p3]; rfl, fun e he => ?_, acc2 ++ [v], upd_same, by rw [List.length_append]; show _ + 1 ≤ _; omega, ?_⟩, ?_⟩
          · rcases List.mem_append.mp he with he | he
            · exact p4 e he
            · have : e = ys := by simpa using he
              rw [this]; exact eok
          · rw [List.map_append]
            exact Ims.append (((p7.tx gfh.1.2 (stills_of fun e _ => still_eS e)).mono ehi).tx (tx_lst gE2) (stills_of fun e _ => still_eS e)) (.cons iv .nil)
          · have e1 : ExM [t, c] He Hi := (ExM.of eef).trans (gfh.ex ehi).1
            exact (e1.weak (fun a ha => by simp at ha ⊢; rcases ha with h | h <;> simp [h])).trans (ExM.upd gE2 (by simp))
      have app : ∀ (D : Ends) (Hh : Hp), (∀ (s2 : Str) (H' : Hp), s2 ∈ ns → Go t c Hf H' → H' W = some (.lst (ws.map V.str)) → D.nx [some (.ref t), some (.ref N), some (.ref R), some (.str s1), some (.ref Ea), some x, some (.ref W), none] (L2.upd H' W (.lst ((ws ++ [s2]).map V.str)))) → Go t c Hf Hh → Hh W = some (.lst (ws.map V.str)) →
          tDrop (tBM K "list" rAppend (tVar 6) (tCons (tCall sp_pick [] E0 (tCons (tVar 0) (tCons (tVar 1) tNil))) tNil)) D [some (.ref t), some (.ref N), some (.ref R), some (.str s1), some (.ref Ea), some x, some (.ref W), none] Hh := by
        intro D Hh hD gfh hW'
        refine s_appPick (xs := ws.map V.str) (ys := ns.map V.str) hW' (ev_var rfl) rfl gfh.2 nWin (ev_var rfl) nN (gfh.at nN gNf) (by simpa using nne) (by rw [List.length_map]; omega) (by rw [List.length_map]; omega) ?_
        intro i2 x2 hx2 H' g hW2
        obtain ⟨s2, hs2, rfl⟩ := map_inv hx2
        have := hD s2 H' (List.mem_of_getElem? hs2) (gfh.trans g) hW2
        rw [List.map_append] at this
        exact this
      refine q_or2 (b1 := decide (ws.length = 0)) (et_is (et_D (ed_eqI (ed_lenL (ed_var rfl (.lst hW (Ims.ofStrs ws)))) (ed_i 0))) (by rw [List.length_map]; congr 1; simp)) ?_ ?_
      · intro _ Hh egh
        exact app _ Hh (fun s2 H' hs2 g hW2 => fin _ (ws ++ [s2]) _ (fun _ _ h => h) ⟨by simp, ws, sub, .inr ⟨s2, hs2, rfl⟩⟩ (by rw [List.length_append]; show _ + 1 ≤ 3; omega) (g.mut GF.2 nW) upd_same) (gfg.ex egh) (egh _ _ hW)
      · intro hb Hh egh
        refine draw_zero (m := 2) rfl (gfg.ex egh).2 (by omega) (by omega) fun b Hi ghi => ?_
        have g2 := (gfg.ex egh).trans ghi
        have hWi : Hi W = some (.lst (ws.map V.str)) := ghi.at nWin (egh _ _ hW)
        cases b with
        | true => exact app _ Hi (fun s2 H' hs2 g hW2 => fin _ (ws ++ [s2]) _ (fun _ _ h => h) ⟨by simp, ws, sub, .inr ⟨s2, hs2, rfl⟩⟩ (by rw [List.length_append]; show _ + 1 ≤ 3; omega) (g.mut GF.2 nW) upd_same) g2 hWi
        | false => exact fin _ ws Hi (fun _ _ h => h) ⟨fun z => by rw [z] at hb; simp at hb, ws, sub, .inl rfl⟩ (by omega) g2 hWi
    · rintro σ' He ⟨⟨u1, u2, rfl⟩, GE, es, p3, p4, acc2, p5, p6, p7⟩
      rw [List.length_map, List.length_range] at p3 p6
      have hne : es ≠ [] := fun z => by rw [z] at p3; simp at p3; omega
      have gR : He R = some (.lst acc) := GE.at nRin q5
      refine s_appD (xs := acc) (d := eRow (s1, es)) gR (ev_var rfl) (ed_tup (ea1 (ed_var rfl (.str s1)) (ea1 (ed_tupOf (ed_var rfl (.lst p5 p7))) ea0)) (by show 2 ≤ 100000; omega)) (by have := still_rows [(s1, es)]; simpa [stills] using this) (by omega) ?_
      intro v Hi ehi gR2 iv
      have GI := (GB.trans GE).ex ehi
      refine ⟨⟨⟨_, _, _, _, rfl⟩, GI.mut G3.2 nR, rows ++ [(s1, es)], ?_, fun r hr => ?_, acc ++ [v], upd_same, by rw [List.length_append]; show _ + 1 ≤ _; omega, ?_⟩, ?_⟩
      · rw [take_more hs1, List.map_append, q3]; rfl
      · rcases List.mem_append.mp hr with hr | hr
        · exact q4 r hr
        · have : r = (s1, es) := by simpa using hr
          rw [this]
          exact ⟨hne, by show es.length ≤ 2; omega, p4⟩
      · rw [List.map_append]
        exact Ims.append (((q7.tx GE.1.2 (still_rows _)).mono ehi).tx (tx_lst gR2) (still_rows _)) (.cons iv .nil)
      · have e1 : ExM [t, c] Ha Hi := (ExM.of eab).trans (GE.ex ehi).1
        exact (e1.weak subR).trans (ExM.upd gR2 (by simp))
  · rintro σ' Ha ⟨⟨v1, v2, v3, v4, rfl⟩, GB, rows, q3, q4, acc, q5, q6, q7⟩
    rw [List.length_map, List.take_length] at q3
    refine s_retD (ed_tupOf (ed_var rfl (.lst q5 q7))) fun v Hz ez iv => kk rows v Hz (lt_of (n := 1 + r) (by omega) (by omega) (by rw [hns]; exact q3) (fun r hr => by rw [hns]; exact q4 r hr)) ((G3.trans GB).ex ez) iv
end
end K35
set_option Elab.async false
set_option linter.all false
set_option maxRecDepth 100000
set_option maxHeartbeats 4000000
namespace K35
open PySem PySem.Spec PyProof.Rows L2 Evl Pd
def sp_law_entries : Sp := SpQ fun ds d => ∃ (tb : List TRow) (n : Str) (c : List (List Str)), ds = [eT tb, .str n] ∧ tb.length ≤ 1000 ∧ cellsOf tb n = some c ∧ d = eC c
def OneT (x : TS3) : Prop := ∀ n c, cellsOf x.1 n = some c → ∀ e ∈ c, (restOf e).length ≤ 1 ∧ (∀ w ∈ e, PyData.strOk w = true) ∧ e.length ≤ 1000
def sp_law_allows : Sp := SpQ fun ds d => ∃ (x : TS3) (op : Op), ds = [eT x.1, eS x.2.1, eS x.2.2, eOp op] ∧ Gd x ∧ OneT x ∧ (∀ q, q < x.2.2.length → PyData.strOk (reg x q) = true) ∧ OpOk x.2.1.length x.2.2.length op ∧ d = .bool (toldAllows x op)
theorem first_rest (e : List Str) : firstName e = (restOf e).head? := (List.head?_filter ..).symm
theorem fits_rest (x : TS3) (e : List Str) (g : Str) : fits x (some e) g = (match restOf e with | [] => true | m :: _ => decide (m = g)) := by
  show (match firstName e with | none => true | some n => decide (n = g)) = _
  rw [first_rest]
  cases restOf e <;> rfl
theorem keeps_rest {e : List Str} {g : Str} (h : (restOf e).length ≤ 1) : (decide (("none" : Str) ∈ e) && PyData.eqv (.list ((restOf e).map .str)) (.list [.str g])) = keepsN (some e) g := by
  show _ = (decide (("none" : Str) ∈ e) && (match firstName e with | none => false | some n => decide (n = g)))
  rw [first_rest]
  congr 1
  cases hr : restOf e with
  | nil => simp [PyData.eqv, PyData.eqvAll]
  | cons m l =>
    cases l with
    | nil => by_cases hm : m = g <;> simp [PyData.eqv, PyData.eqvAll, hm]
    | cons a b => rw [hr] at h; simp at h
theorem shaped_lst {ss : List Str} (h : ∀ w ∈ ss, PyData.strOk w = true) : SeqAt.shaped (.list (ss.map .str)) = true := by
  have c : ∀ l : List Str, (∀ w ∈ l, PyData.strOk w = true) → PyData.canLayAll0 (l.map .str) = true ∧ PyData.depthAll (l.map .str) = 0 := by
    intro l
    induction l with
    | nil => intro _; exact ⟨by simp [PyData.canLayAll0], by simp [PyData.depthAll]⟩
    | cons a l ih =>
      intro hl
      obtain ⟨i1, i2⟩ := ih fun w hw => hl w (List.mem_cons_of_mem _ hw)
      have ha := hl a (List.mem_cons_self ..)
      exact ⟨by simp [PyData.canLayAll0, PyData.canLay0, ha, i1], by simp [PyData.depthAll, PyData.depth, i2]⟩
  obtain ⟨c1, c2⟩ := c ss h
  unfold SeqAt.shaped
  simp [PyData.canLay0, PyData.depth, c1, c2]
section
variable {P : Program} {w : World} {K : PySem.W.Frag} {mg : Str → Option Value} {base : Heap}
theorem ed_niL {σ : L2.St} {H : Hp} {ta tb : TE} {a : Str} {ss : List Str} (ha : EvD ta σ H (.str a)) (hb : EvD tb σ H (.list (ss.map .str))) : EvD (tOp (rIn K true) ta tb) σ H (.bool (!decide (a ∈ ss))) :=
  ed_op ha hb fun x y H1 e hx hy Q q => by
    obtain ⟨p, xs, rfl, h1, h2⟩ := hy.l
    have ex := h2.strs; subst ex; rw [hx.s]
    refine ⟨p, _, rfl, .inl (SqL.of h1), rfl, flat_strs ss, ?_⟩
    have h := q _ H1 (Ex.refl H1) (.bl (!decide (a ∈ ss)))
    show Q (.bl (!inV (.str a) (ss.map V.str))) H1
    rw [inV_strs]; exact h
theorem cal__law_entries (S : Src K mg "_law_entries" st__law_entries ["table", "name"]) (T : Txt K mg) : Cal P w K mg base CX0 1 "_law_entries" ["table", "name"] sp_law_entries := by
  have sc := sc__law_entries
  refine S.cal (k := 0) sc (SpQ.len fun ds d h => by obtain ⟨_, _, _, rfl, _⟩ := h; rfl) (fun f cdv A outer s H vs Q E hr h => ⟨_, (pss_one (ps_ret (pe_ix (k_ix_list (K := K) rfl) (pe_lc (own := [("row", 2)]) rfl sc.nd (k_pi_tup (K := K) rfl (pv 0)) (blkOk_by (by first | decide +kernel | kernel_rfl)) (fun _ _ _ _ _ => (pg_name (i := 2) sc.nd rfl (by first | exact Or.inl rfl | exact Or.inr rfl))) (fun _ _ _ _ _ => (pts_one (pt_cmpR op_eq (pe_ix (k_ix_tup (K := K) rfl) (pv 2) pe_int (fun _ _ => rfl)) (pv 1) (nomark _)))) (fun _ _ _ _ _ => (pe_ix (k_ix_tup (K := K) rfl) (pv 2) pe_int (fun _ _ => rfl)))) pe_int (fun _ _ => rfl)))), ?_⟩)
  obtain ⟨ds, d, i, ⟨tb, n, c, rfl, hl, hc, rfl⟩, k⟩ := h
  obtain ⟨v, u, rfl, iv, iu⟩ := i.two
  have eu := iu.s
  subst eu
  refine s_retD (ed_ixL (en_lc (l := tb) (emb := eRow) (fun r => eC r.2) (fun r => decide (r.1 = n)) (wk_tup (ed_var rfl iv)) (by omega) (fun r hr' z H3 e3 iz => ⟨et_D (ed_eqS (ed_ixT (ed_var rfl iz) (ed_i 0) rfl) (ed_var rfl (.str _))), fun _ => ed_ixT (ed_var rfl iz) (ed_i 1) rfl⟩) (fun r hr' _ => by have := still_rows [r]; simp [stills, still] at this ⊢; exact this)).toD (ed_i 0) (atI_nat (j := 0) ?_)) fun v1 H1 e1 iv1 => k v1 H1 e1 iv1
  unfold cellsOf at hc
  rw [← List.head?_filter] at hc
  rw [List.getElem?_map]
  cases hf : tb.filter (fun r => decide (r.1 = n)) with
  | nil => rw [hf] at hc; cases hc
  | cons a l =>
    rw [hf] at hc
    have : a.2 = c := Option.some.inj hc
    rw [← this]; rfl
theorem cal__law_allows (S : Src K mg "_law_allows" st__law_allows ["table", "roots", "registers", "operation"]) (T : Txt K mg) (C__law_entries : Cal P w K mg base CX0 1 "_law_entries" ["table", "name"] sp_law_entries) : Cal P w K mg base CX0 2 "_law_allows" ["table", "roots", "registers", "operation"] sp_law_allows := by
  have sc := sc__law_allows
  refine S.cal (k := 1) sc (SpQ.len fun ds d h => by obtain ⟨_, _, rfl, _⟩ := h; rfl) (fun f cdv A outer s H vs Q E hr h => ⟨_, (pss_cons (ps_set (i := 4) sc.nd rfl (by first | exact Or.inl rfl | exact Or.inr rfl) (pe_ix (k_ix_tup (K := K) rfl) (pv 3) pe_int (fun _ _ => rfl)))
  (pss_cons (ps_if (pt_cmpR (k_in_seq (K := K) rfl) (pv 4) (pe_lst (pa_cons pe_str (pa_cons pe_str (pa_cons pe_str pa_nil)))) (by rfl)) (pss_one (ps_ret pe_bl)) pss_nil)
  (pss_cons (ps_if (pt_cmpR op_eq (pv 4) pe_str (nomark _)) (pss_one (ps_ret (pe_cmpR op_eq (pe_ix (k_ix_tup (K := K) rfl) (pv 1) (pe_ix (k_ix_tup (K := K) rfl) (pv 3) pe_int (fun _ _ => rfl)) (fun _ _ => rfl)) (pe_ix (k_ix_tup (K := K) rfl) (pv 2) (pe_ix (k_ix_tup (K := K) rfl) (pv 3) pe_int (fun _ _ => rfl)) (fun _ _ => rfl)) (nomark _)))) pss_nil)
  (pss_cons (ps_if (pt_cmpR op_eq (pv 4) pe_str (nomark _)) (pss_one (ps_ret (pe_cmpR op_eq (pe_ix (k_ix_tup (K := K) rfl) (pv 2) (pe_ix (k_ix_tup (K := K) rfl) (pv 3) pe_int (fun _ _ => rfl)) (fun _ _ => rfl)) (pe_ix (k_ix_tup (K := K) rfl) (pv 1) (pe_ix (k_ix_tup (K := K) rfl) (pv 3) pe_int (fun _ _ => rfl)) (fun _ _ => rfl)) (nomark _)))) pss_nil)
  (pss_cons (ps_if (pt_cmpR op_eq (pv 4) pe_str (nomark _)) (pss_one (ps_ret (pe_cmpR op_eq (pe_ix (k_ix_tup (K := K) rfl) (pv 2) (pe_ix (k_ix_tup (K := K) rfl) (pv 3) pe_int (fun _ _ => rfl)) (fun _ _ => rfl)) (pe_ix (k_ix_tup (K := K) rfl) (pv 2) (pe_ix (k_ix_tup (K := K) rfl) (pv 3) pe_int (fun _ _ => rfl)) (fun _ _ => rfl)) (nomark _)))) pss_nil)
  (pss_cons (ps_set (i := 5) sc.nd rfl (by first | exact Or.inl rfl | exact Or.inr rfl) (pe_ifExp (pt_cmpR op_eq (pv 4) pe_str (nomark _)) (pe_ix (k_ix_tup (K := K) rfl) (pv 3) pe_int (fun _ _ => rfl)) (pe_ix (k_ix_tup (K := K) rfl) (pv 3) pe_int (fun _ _ => rfl))))
  (pss_cons (ps_set (i := 6) sc.nd rfl (by first | exact Or.inl rfl | exact Or.inr rfl) (pe_cal C__law_entries (hr.mono (by first | decide | omega)) rfl pass0 (pa_cons (pv 0) (pa_cons (pe_ix (k_ix_tup (K := K) rfl) (pv 2) (pv 5) (fun _ _ => rfl)) pa_nil))))
  (pss_cons (ps_if (pt_cmpR op_eq (pv 4) pe_str (nomark _)) (pss_one (ps_ret (pe_and (pe_cmpR op_eq (pe_ix (k_ix_tup (K := K) rfl) (pv 3) pe_int (fun _ _ => rfl)) (pe_callB (k_len_seq (K := K) rfl) (by rfl) T.n_len PySem.boot_len (pa_cons (pv 6) pa_nil)) (nomark _)) (pe_one (pe_callB (k_all (K := K) rfl rfl) (by rfl) T.n_all (by decide +kernel) (pa_cons (pe_lc (own := [("entry", 9)]) rfl sc.nd (k_pi_tup (K := K) rfl (pv 6)) (blkOk_by (by first | decide +kernel | kernel_rfl)) (fun _ _ _ _ _ => (pg_name (i := 9) sc.nd rfl (by first | exact Or.inl rfl | exact Or.inr rfl))) (fun _ _ _ _ _ => pts_nil) (fun _ _ _ _ _ => (pe_cmpR (k_in_seq (K := K) rfl) pe_str (pv 9) (by rfl)))) pa_nil)))))) pss_nil)
  (pss_cons (ps_set (i := 7) sc.nd rfl (by first | exact Or.inl rfl | exact Or.inr rfl) (pe_ifExp (pt_cmpR op_eq (pv 4) pe_str (nomark _)) (pe_ix (k_ix_tup (K := K) rfl) (pv 3) pe_int (fun _ _ => rfl)) (pe_ix (k_ix_tup (K := K) rfl) (pv 3) pe_int (fun _ _ => rfl))))
  (pss_cons (ps_if (pt_cmpR op_ge (pv 7) (pe_callB (k_len_seq (K := K) rfl) (by rfl) T.n_len PySem.boot_len (pa_cons (pv 6) pa_nil)) (nomark _)) (pss_one (ps_ret pe_bl)) pss_nil)
  (pss_cons (ps_setLc (i := 8) (own := [("one", 10)]) rfl sc.nd rfl rfl (sw_true rfl rfl rfl (by decide +kernel)) (k_pi_tup (K := K) rfl (pe_ix (k_ix_tup (K := K) rfl) (pv 6) (pv 7) (fun _ _ => rfl))) (blkOk_by (by first | decide +kernel | kernel_rfl)) (fun _ _ _ _ _ => (pg_name (i := 10) sc.nd rfl (by first | exact Or.inl rfl | exact Or.inr rfl))) (fun _ _ _ _ _ => (pts_one (pt_cmpR (k_notIn_seq (K := K) rfl) (pv 10) (pe_lst (pa_cons pe_str (pa_cons pe_str pa_nil))) (by rfl)))) (fun _ _ _ _ _ => (pv 10)))
  (pss_cons (ps_if (pt_cmpR op_eq (pv 4) pe_str (nomark _)) (pss_one (ps_ret pe_bl)) pss_nil)
  (pss_cons (ps_if (pt_cmpR op_eq (pv 4) pe_str (nomark _)) (pss_one (ps_ret (pe_cmpR (k_in_seq (K := K) rfl) pe_str (pe_ix (k_ix_tup (K := K) rfl) (pv 6) (pv 7) (fun _ _ => rfl)) (by rfl)))) pss_nil)
  (pss_cons (ps_if (pt_cmpR op_eq (pv 4) pe_str (nomark _)) (pss_one (ps_ret (pe_or (pe_cmpR op_eq (pe_callB (k_len_seq (K := K) rfl) (by rfl) T.n_len PySem.boot_len (pa_cons (pv 8) pa_nil)) pe_int (nomark _)) (pe_one (pe_cmpR op_eq (pe_ix (k_ix_list (K := K) rfl) (pv 8) pe_int (fun _ _ => rfl)) (pe_ix (k_ix_tup (K := K) rfl) (pv 2) (pe_ix (k_ix_tup (K := K) rfl) (pv 3) pe_int (fun _ _ => rfl)) (fun _ _ => rfl)) (nomark _)))))) pss_nil)
  (pss_one (ps_ret (pe_and (pe_cmpR (k_in_seq (K := K) rfl) pe_str (pe_ix (k_ix_tup (K := K) rfl) (pv 6) (pv 7) (fun _ _ => rfl)) (by rfl)) (pe_one (pe_cmpR (k_eqD (K := K) rfl (hr.units)) (pv 8) (pe_lst (pa_cons (pe_ix (k_ix_tup (K := K) rfl) (pv 2) (pe_ix (k_ix_tup (K := K) rfl) (pv 3) pe_int (fun _ _ => rfl)) (fun _ _ => rfl)) pa_nil)) (nomark _)))))))))))))))))))), ?_⟩)
  obtain ⟨ds, d, i, ⟨x, op, rfl, G, O, RO, ok, rfl⟩, kk⟩ := h
  obtain ⟨v1, v2, v3, v4, rfl, i1, i2, i3, i4⟩ := Ims.four i
  have regE : ∀ {σ : L2.St} {HH : Hp} {ix : TE} {n : Nat}, σ[2]? = some (some v3) → Ex H HH → EvD ix σ HH (.int (n : Nat)) → n < x.2.2.length → EvD (tOp (rIxT K) (tVar 2) ix) σ HH (.str (reg x n)) := fun hs e hx hn => ed_ixT (ed_var hs (i3.mono e)) hx (atI_nat (by rw [List.getElem?_map, reg_at hn]; rfl))
  have rooE : ∀ {σ : L2.St} {HH : Hp} {ix : TE} {n : Nat}, σ[1]? = some (some v2) → Ex H HH → EvD ix σ HH (.int (n : Nat)) → n < x.2.1.length → EvD (tOp (rIxT K) (tVar 1) ix) σ HH (.str (roo x n)) := fun hs e hx hn => ed_ixT (ed_var hs (i2.mono e)) hx (atI_nat (by rw [List.getElem?_map, roo_at hn]; rfl))
  show tSeq (tAsg _ _) _ _ [some v1, some v2, some v3, some v4, none, none, none, none, none, none, none] H
  cases op with
  | put r s =>
    refine q_asgD (d := .str "put") (ed_ixT (ed_var rfl i4) (ed_i 0) rfl) ?_
    intro wv H1 e1 iw
    have ew := iw.s
    subst ew
    show tSeq (tIfS _ _ _) _ _ [some v1, some v2, some v3, some v4, some (.str "put"), none, none, none, none, none, none] H1
    refine q_when (b := false) (et_is (et_D (ed_inL (ss := ["same", "size", "drop"]) (ed_var rfl (.str _)) (en_lst (ea1 (ed_s _) (ea1 (ed_s _) (ea1 (ed_s _) ea0))) (by show 3 ≤ 100000; omega)).toD)) (by decide +kernel)) (fun z => by cases z) ?_
    intro _ J1 j1
    have f1 := (e1).trans j1
    refine q_when (b := false) (et_is (et_D (ed_eqS (ed_var rfl (.str _)) (ed_s "root"))) (by decide +kernel)) (fun z => by cases z) ?_
    intro _ J2 j2
    have f2 := (f1).trans j2
    refine q_when (b := false) (et_is (et_D (ed_eqS (ed_var rfl (.str _)) (ed_s "take"))) (by decide +kernel)) (fun z => by cases z) ?_
    intro _ J3 j3
    have f3 := (f2).trans j3
    refine q_when (b := false) (et_is (et_D (ed_eqS (ed_var rfl (.str _)) (ed_s "copy"))) (by decide +kernel)) (fun z => by cases z) ?_
    intro _ J4 j4
    have f4 := (f3).trans j4
    refine q_asgD (d := .int (r : Nat)) (ed_if (b := false) (et_is (et_D (ed_eqS (ed_var rfl (.str _)) (ed_s "load"))) (by decide +kernel)) (fun z => by cases z) (fun _ => (ed_ixT (ed_var rfl (i4.mono f4)) (ed_i 1) rfl))) ?_
    intro pv K1 k1 ipv
    have epv := ipv.i
    subst epv
    have g1 := (f4).trans k1
    show tSeq (tAsg _ _) _ _ [some v1, some v2, some v3, some v4, some (.str "put"), some (.int (r : Nat)), none, none, none, none, none] K1
    obtain ⟨gn, hgn, hc⟩ := G.at ok
    have hc1 : cellsOf x.1 (reg x r) = some (cAt x r) := by rw [reg_at ok] at hgn; cases hgn; exact hc
    refine q_asgD (d := eC (cAt x r)) (ed_callQ (ea1 (ed_var rfl (i1.mono g1)) (ea1 (regE rfl g1 (ed_var rfl (.int _)) ok) ea0)) ⟨x.1, reg x r, cAt x r, rfl, G.len, hc1, rfl⟩) ?_
    intro ev K2 k2 iev
    have g2 := g1.trans k2
    show tSeq (tIfS _ _ _) _ _ [some v1, some v2, some v3, some v4, some (.str "put"), some (.int (r : Nat)), some ev, none, none, none, none] K2
    have one := O _ _ hc1
    have fewc := G.few _ _ hc1
    refine q_when (b := true) (et_is (et_D (ed_eqS (ed_var rfl (.str _)) (ed_s "put"))) (by decide +kernel)) ?_ (fun z => by cases z)
    intro _ J5 j5
    have f5 := (g2).trans j5
    have iev3 := iev.mono j5
    refine s_retD (d := .bool (toldAllows x (.put r s))) (EvD.is (ed_and (a := decide (s = (cAt x r).length)) (EvD.is (ed_eqI (ed_ixT (ed_var rfl (i4.mono f5)) (ed_i 2) rfl) (ed_lenT (ed_var rfl iev3))) (by rw [List.length_map]; exact congrArg PyData.bool (decide_eq_decide.mpr (by omega)))) (fun _ => EvD.is (ed_all (bs := (cAt x r).map fun e => decide (("none" : Str) ∈ e)) (EvD.is (en_lcM (l := cAt x r) (emb := fun e => eS e) (fun e => .bool (decide (("none" : Str) ∈ e))) (wk_tup (ed_var rfl iev3)) (by omega) (fun e he z H3 e3 iz => ed_inT (ed_s _) (ed_var rfl iz)) (fun _ _ => rfl)).toD (by rw [List.map_map] <;> rfl))) (by rw [List.all_map] <;> rfl))) ?_) fun v H2 e2 iv => kk v H2 ((f5).trans e2) iv
    have : decide (s = (cAt x r).length) = decide ((cAt x r).length = s) := decide_eq_decide.mpr ⟨fun h => h.symm, fun h => h.symm⟩
    rw [this]; rfl
  | get r k =>
    refine q_asgD (d := .str "get") (ed_ixT (ed_var rfl i4) (ed_i 0) rfl) ?_
    intro wv H1 e1 iw
    have ew := iw.s
    subst ew
    show tSeq (tIfS _ _ _) _ _ [some v1, some v2, some v3, some v4, some (.str "get"), none, none, none, none, none, none] H1
    refine q_when (b := false) (et_is (et_D (ed_inL (ss := ["same", "size", "drop"]) (ed_var rfl (.str _)) (en_lst (ea1 (ed_s _) (ea1 (ed_s _) (ea1 (ed_s _) ea0))) (by show 3 ≤ 100000; omega)).toD)) (by decide +kernel)) (fun z => by cases z) ?_
    intro _ J1 j1
    have f1 := (e1).trans j1
    refine q_when (b := false) (et_is (et_D (ed_eqS (ed_var rfl (.str _)) (ed_s "root"))) (by decide +kernel)) (fun z => by cases z) ?_
    intro _ J2 j2
    have f2 := (f1).trans j2
    refine q_when (b := false) (et_is (et_D (ed_eqS (ed_var rfl (.str _)) (ed_s "take"))) (by decide +kernel)) (fun z => by cases z) ?_
    intro _ J3 j3
    have f3 := (f2).trans j3
    refine q_when (b := false) (et_is (et_D (ed_eqS (ed_var rfl (.str _)) (ed_s "copy"))) (by decide +kernel)) (fun z => by cases z) ?_
    intro _ J4 j4
    have f4 := (f3).trans j4
    refine q_asgD (d := .int (r : Nat)) (ed_if (b := false) (et_is (et_D (ed_eqS (ed_var rfl (.str _)) (ed_s "load"))) (by decide +kernel)) (fun z => by cases z) (fun _ => (ed_ixT (ed_var rfl (i4.mono f4)) (ed_i 1) rfl))) ?_
    intro pv K1 k1 ipv
    have epv := ipv.i
    subst epv
    have g1 := (f4).trans k1
    show tSeq (tAsg _ _) _ _ [some v1, some v2, some v3, some v4, some (.str "get"), some (.int (r : Nat)), none, none, none, none, none] K1
    obtain ⟨gn, hgn, hc⟩ := G.at ok
    have hc1 : cellsOf x.1 (reg x r) = some (cAt x r) := by rw [reg_at ok] at hgn; cases hgn; exact hc
    refine q_asgD (d := eC (cAt x r)) (ed_callQ (ea1 (ed_var rfl (i1.mono g1)) (ea1 (regE rfl g1 (ed_var rfl (.int _)) ok) ea0)) ⟨x.1, reg x r, cAt x r, rfl, G.len, hc1, rfl⟩) ?_
    intro ev K2 k2 iev
    have g2 := g1.trans k2
    show tSeq (tIfS _ _ _) _ _ [some v1, some v2, some v3, some v4, some (.str "get"), some (.int (r : Nat)), some ev, none, none, none, none] K2
    have one := O _ _ hc1
    have fewc := G.few _ _ hc1
    refine q_when (b := false) (et_is (et_D (ed_eqS (ed_var rfl (.str _)) (ed_s "put"))) (by decide +kernel)) (fun z => by cases z) ?_
    intro _ J5 j5
    have f5 := (g2).trans j5
    refine q_asgD (d := .int (k : Nat)) (ed_if (b := false) (et_is (et_D (ed_eqS (ed_var rfl (.str _)) (ed_s "load"))) (by decide +kernel)) (fun z => by cases z) (fun _ => (ed_ixT (ed_var rfl (i4.mono f5)) (ed_i 2) rfl))) ?_
    intro kv K3 k3 ikv
    have ekv := ikv.i
    subst ekv
    have g3 := (f5).trans k3
    have iev3 := (iev.mono j5).mono k3
    show tSeq (tIfS _ _ _) _ _ [some v1, some v2, some v3, some v4, some (.str "get"), some (.int (r : Nat)), some ev, some (.int (k : Nat)), none, none, none] K3
    refine q_when (b := decide ((cAt x r).length ≤ k)) (et_is (et_D (ed_B0 (ed_var rfl (.int _)) (ed_lenT (ed_var rfl iev3)))) (by rw [List.length_map]; exact decide_eq_decide.mpr (by omega))) ?_ ?_
    · intro hb K4 k4
      have hk : (cAt x r)[k]? = none := List.getElem?_eq_none (of_decide_eq_true hb)
      have hr0 : toldAllows x (.get r k) = false := by simp [toldAllows, hk, fits, keepsN]
      rw [hr0] at kk
      exact s_retD (ed_b false) fun v H2 e2 iv => kk v H2 ((g3.trans k4).trans e2) iv
    · intro hb K4 k4
      have hlt : k < (cAt x r).length := by have := of_decide_eq_false hb; omega
      obtain ⟨ent, hent⟩ : ∃ ent, (cAt x r)[k]? = some ent := ⟨_, List.getElem?_eq_getElem hlt⟩
      obtain ⟨o1, o2, o3⟩ := one ent (List.mem_of_getElem? hent)
      have g4 := g3.trans k4
      have iev4 := iev3.mono k4
      have entE : ∀ {n : Option V} {HH}, Ex K4 HH → EvD (tOp (rIxT K) (tVar 6) (tVar 7)) [some v1, some v2, some v3, some v4, some (.str "get"), some (.int (r : Nat)), some ev, some (.int (k : Nat)), n, none, none] HH (eS ent) := fun e => ed_ixT (ed_var rfl (iev4.mono e)) (ed_var rfl (.int _)) (atI_nat (by rw [List.getElem?_map, hent]; rfl))
      have hr0 : toldAllows x (.get r k) = true := by simp [toldAllows, hent]
      rw [hr0] at kk
      refine q_asgN (ds := (restOf ent).map .str) (EvN.is (en_lc (l := ent) (emb := .str) .str (fun w => !plain w) (wk_tup (entE (Ex.refl K4))) (by omega) (fun s hs z H5 e5 iz => ⟨et_D (ed_niL (ss := ["integer", "none"]) (ed_var rfl iz) (en_lst (ea1 (ed_s _) (ea1 (ed_s _) ea0)) (by show 2 ≤ 100000; omega)).toD), fun _ => ed_var rfl iz⟩) (fun _ _ _ => rfl)) rfl) ?_
      intro np nxs K5 nn k5 gp gx
      have g5 := g4.trans k5
      have inm : Im K5 (.ref np) (.list ((restOf ent).map .str)) := .lst gp gx
      show tSeq (tIfS _ _ _) _ _ [some v1, some v2, some v3, some v4, some (.str "get"), some (.int (r : Nat)), some ev, some (.int (k : Nat)), some (.ref np), none, none] K5
      refine q_when (b := true) (et_is (et_D (ed_eqS (ed_var rfl (.str _)) (ed_s "get"))) (by decide +kernel)) ?_ (fun z => by cases z)
      intro _ J6 j6
      have f6 := (g5).trans j6
      have h6 := (k5).trans j6
      have inm := inm.mono j6
      exact s_retD (ed_b true) fun v H2 e2 iv => kk v H2 ((f6).trans e2) iv
  | set r k =>
    refine q_asgD (d := .str "set") (ed_ixT (ed_var rfl i4) (ed_i 0) rfl) ?_
    intro wv H1 e1 iw
    have ew := iw.s
    subst ew
    show tSeq (tIfS _ _ _) _ _ [some v1, some v2, some v3, some v4, some (.str "set"), none, none, none, none, none, none] H1
    refine q_when (b := false) (et_is (et_D (ed_inL (ss := ["same", "size", "drop"]) (ed_var rfl (.str _)) (en_lst (ea1 (ed_s _) (ea1 (ed_s _) (ea1 (ed_s _) ea0))) (by show 3 ≤ 100000; omega)).toD)) (by decide +kernel)) (fun z => by cases z) ?_
    intro _ J1 j1
    have f1 := (e1).trans j1
    refine q_when (b := false) (et_is (et_D (ed_eqS (ed_var rfl (.str _)) (ed_s "root"))) (by decide +kernel)) (fun z => by cases z) ?_
    intro _ J2 j2
    have f2 := (f1).trans j2
    refine q_when (b := false) (et_is (et_D (ed_eqS (ed_var rfl (.str _)) (ed_s "take"))) (by decide +kernel)) (fun z => by cases z) ?_
    intro _ J3 j3
    have f3 := (f2).trans j3
    refine q_when (b := false) (et_is (et_D (ed_eqS (ed_var rfl (.str _)) (ed_s "copy"))) (by decide +kernel)) (fun z => by cases z) ?_
    intro _ J4 j4
    have f4 := (f3).trans j4
    refine q_asgD (d := .int (r : Nat)) (ed_if (b := false) (et_is (et_D (ed_eqS (ed_var rfl (.str _)) (ed_s "load"))) (by decide +kernel)) (fun z => by cases z) (fun _ => (ed_ixT (ed_var rfl (i4.mono f4)) (ed_i 1) rfl))) ?_
    intro pv K1 k1 ipv
    have epv := ipv.i
    subst epv
    have g1 := (f4).trans k1
    show tSeq (tAsg _ _) _ _ [some v1, some v2, some v3, some v4, some (.str "set"), some (.int (r : Nat)), none, none, none, none, none] K1
    obtain ⟨gn, hgn, hc⟩ := G.at ok
    have hc1 : cellsOf x.1 (reg x r) = some (cAt x r) := by rw [reg_at ok] at hgn; cases hgn; exact hc
    refine q_asgD (d := eC (cAt x r)) (ed_callQ (ea1 (ed_var rfl (i1.mono g1)) (ea1 (regE rfl g1 (ed_var rfl (.int _)) ok) ea0)) ⟨x.1, reg x r, cAt x r, rfl, G.len, hc1, rfl⟩) ?_
    intro ev K2 k2 iev
    have g2 := g1.trans k2
    show tSeq (tIfS _ _ _) _ _ [some v1, some v2, some v3, some v4, some (.str "set"), some (.int (r : Nat)), some ev, none, none, none, none] K2
    have one := O _ _ hc1
    have fewc := G.few _ _ hc1
    refine q_when (b := false) (et_is (et_D (ed_eqS (ed_var rfl (.str _)) (ed_s "put"))) (by decide +kernel)) (fun z => by cases z) ?_
    intro _ J5 j5
    have f5 := (g2).trans j5
    refine q_asgD (d := .int (k : Nat)) (ed_if (b := false) (et_is (et_D (ed_eqS (ed_var rfl (.str _)) (ed_s "load"))) (by decide +kernel)) (fun z => by cases z) (fun _ => (ed_ixT (ed_var rfl (i4.mono f5)) (ed_i 2) rfl))) ?_
    intro kv K3 k3 ikv
    have ekv := ikv.i
    subst ekv
    have g3 := (f5).trans k3
    have iev3 := (iev.mono j5).mono k3
    show tSeq (tIfS _ _ _) _ _ [some v1, some v2, some v3, some v4, some (.str "set"), some (.int (r : Nat)), some ev, some (.int (k : Nat)), none, none, none] K3
    refine q_when (b := decide ((cAt x r).length ≤ k)) (et_is (et_D (ed_B0 (ed_var rfl (.int _)) (ed_lenT (ed_var rfl iev3)))) (by rw [List.length_map]; exact decide_eq_decide.mpr (by omega))) ?_ ?_
    · intro hb K4 k4
      have hk : (cAt x r)[k]? = none := List.getElem?_eq_none (of_decide_eq_true hb)
      have hr0 : toldAllows x (.set r k) = false := by simp [toldAllows, hk, fits, keepsN]
      rw [hr0] at kk
      exact s_retD (ed_b false) fun v H2 e2 iv => kk v H2 ((g3.trans k4).trans e2) iv
    · intro hb K4 k4
      have hlt : k < (cAt x r).length := by have := of_decide_eq_false hb; omega
      obtain ⟨ent, hent⟩ : ∃ ent, (cAt x r)[k]? = some ent := ⟨_, List.getElem?_eq_getElem hlt⟩
      obtain ⟨o1, o2, o3⟩ := one ent (List.mem_of_getElem? hent)
      have g4 := g3.trans k4
      have iev4 := iev3.mono k4
      have entE : ∀ {n : Option V} {HH}, Ex K4 HH → EvD (tOp (rIxT K) (tVar 6) (tVar 7)) [some v1, some v2, some v3, some v4, some (.str "set"), some (.int (r : Nat)), some ev, some (.int (k : Nat)), n, none, none] HH (eS ent) := fun e => ed_ixT (ed_var rfl (iev4.mono e)) (ed_var rfl (.int _)) (atI_nat (by rw [List.getElem?_map, hent]; rfl))
      have hr0 : toldAllows x (.set r k) = decide (("integer" : Str) ∈ ent) := by simp [toldAllows, hent]
      rw [hr0] at kk
      refine q_asgN (ds := (restOf ent).map .str) (EvN.is (en_lc (l := ent) (emb := .str) .str (fun w => !plain w) (wk_tup (entE (Ex.refl K4))) (by omega) (fun s hs z H5 e5 iz => ⟨et_D (ed_niL (ss := ["integer", "none"]) (ed_var rfl iz) (en_lst (ea1 (ed_s _) (ea1 (ed_s _) ea0)) (by show 2 ≤ 100000; omega)).toD), fun _ => ed_var rfl iz⟩) (fun _ _ _ => rfl)) rfl) ?_
      intro np nxs K5 nn k5 gp gx
      have g5 := g4.trans k5
      have inm : Im K5 (.ref np) (.list ((restOf ent).map .str)) := .lst gp gx
      show tSeq (tIfS _ _ _) _ _ [some v1, some v2, some v3, some v4, some (.str "set"), some (.int (r : Nat)), some ev, some (.int (k : Nat)), some (.ref np), none, none] K5
      refine q_when (b := false) (et_is (et_D (ed_eqS (ed_var rfl (.str _)) (ed_s "get"))) (by decide +kernel)) (fun z => by cases z) ?_
      intro _ J6 j6
      have f6 := (g5).trans j6
      have h6 := (k5).trans j6
      have inm := inm.mono j6
      refine q_when (b := true) (et_is (et_D (ed_eqS (ed_var rfl (.str _)) (ed_s "set"))) (by decide +kernel)) ?_ (fun z => by cases z)
      intro _ J7 j7
      have f7 := (f6).trans j7
      have h7 := (h6).trans j7
      have inm := inm.mono j7
      exact s_retD (ed_inT (ed_s _) (entE h7)) fun v H2 e2 iv => kk v H2 ((f7).trans e2) iv
  | load q r k =>
    refine q_asgD (d := .str "load") (ed_ixT (ed_var rfl i4) (ed_i 0) rfl) ?_
    intro wv H1 e1 iw
    have ew := iw.s
    subst ew
    show tSeq (tIfS _ _ _) _ _ [some v1, some v2, some v3, some v4, some (.str "load"), none, none, none, none, none, none] H1
    refine q_when (b := false) (et_is (et_D (ed_inL (ss := ["same", "size", "drop"]) (ed_var rfl (.str _)) (en_lst (ea1 (ed_s _) (ea1 (ed_s _) (ea1 (ed_s _) ea0))) (by show 3 ≤ 100000; omega)).toD)) (by decide +kernel)) (fun z => by cases z) ?_
    intro _ J1 j1
    have f1 := (e1).trans j1
    refine q_when (b := false) (et_is (et_D (ed_eqS (ed_var rfl (.str _)) (ed_s "root"))) (by decide +kernel)) (fun z => by cases z) ?_
    intro _ J2 j2
    have f2 := (f1).trans j2
    refine q_when (b := false) (et_is (et_D (ed_eqS (ed_var rfl (.str _)) (ed_s "take"))) (by decide +kernel)) (fun z => by cases z) ?_
    intro _ J3 j3
    have f3 := (f2).trans j3
    refine q_when (b := false) (et_is (et_D (ed_eqS (ed_var rfl (.str _)) (ed_s "copy"))) (by decide +kernel)) (fun z => by cases z) ?_
    intro _ J4 j4
    have f4 := (f3).trans j4
    refine q_asgD (d := .int (r : Nat)) (ed_if (b := true) (et_is (et_D (ed_eqS (ed_var rfl (.str _)) (ed_s "load"))) (by decide +kernel)) (fun _ => (ed_ixT (ed_var rfl (i4.mono f4)) (ed_i 2) rfl)) (fun z => by cases z)) ?_
    intro pv K1 k1 ipv
    have epv := ipv.i
    subst epv
    have g1 := (f4).trans k1
    show tSeq (tAsg _ _) _ _ [some v1, some v2, some v3, some v4, some (.str "load"), some (.int (r : Nat)), none, none, none, none, none] K1
    obtain ⟨gn, hgn, hc⟩ := G.at ok.2
    have hc1 : cellsOf x.1 (reg x r) = some (cAt x r) := by rw [reg_at ok.2] at hgn; cases hgn; exact hc
    refine q_asgD (d := eC (cAt x r)) (ed_callQ (ea1 (ed_var rfl (i1.mono g1)) (ea1 (regE rfl g1 (ed_var rfl (.int _)) ok.2) ea0)) ⟨x.1, reg x r, cAt x r, rfl, G.len, hc1, rfl⟩) ?_
    intro ev K2 k2 iev
    have g2 := g1.trans k2
    show tSeq (tIfS _ _ _) _ _ [some v1, some v2, some v3, some v4, some (.str "load"), some (.int (r : Nat)), some ev, none, none, none, none] K2
    have one := O _ _ hc1
    have fewc := G.few _ _ hc1
    refine q_when (b := false) (et_is (et_D (ed_eqS (ed_var rfl (.str _)) (ed_s "put"))) (by decide +kernel)) (fun z => by cases z) ?_
    intro _ J5 j5
    have f5 := (g2).trans j5
    refine q_asgD (d := .int (k : Nat)) (ed_if (b := true) (et_is (et_D (ed_eqS (ed_var rfl (.str _)) (ed_s "load"))) (by decide +kernel)) (fun _ => (ed_ixT (ed_var rfl (i4.mono f5)) (ed_i 3) rfl)) (fun z => by cases z)) ?_
    intro kv K3 k3 ikv
    have ekv := ikv.i
    subst ekv
    have g3 := (f5).trans k3
    have iev3 := (iev.mono j5).mono k3
    show tSeq (tIfS _ _ _) _ _ [some v1, some v2, some v3, some v4, some (.str "load"), some (.int (r : Nat)), some ev, some (.int (k : Nat)), none, none, none] K3
    refine q_when (b := decide ((cAt x r).length ≤ k)) (et_is (et_D (ed_B0 (ed_var rfl (.int _)) (ed_lenT (ed_var rfl iev3)))) (by rw [List.length_map]; exact decide_eq_decide.mpr (by omega))) ?_ ?_
    · intro hb K4 k4
      have hk : (cAt x r)[k]? = none := List.getElem?_eq_none (of_decide_eq_true hb)
      have hr0 : toldAllows x (.load q r k) = false := by simp [toldAllows, hk, fits, keepsN]
      rw [hr0] at kk
      exact s_retD (ed_b false) fun v H2 e2 iv => kk v H2 ((g3.trans k4).trans e2) iv
    · intro hb K4 k4
      have hlt : k < (cAt x r).length := by have := of_decide_eq_false hb; omega
      obtain ⟨ent, hent⟩ : ∃ ent, (cAt x r)[k]? = some ent := ⟨_, List.getElem?_eq_getElem hlt⟩
      obtain ⟨o1, o2, o3⟩ := one ent (List.mem_of_getElem? hent)
      have g4 := g3.trans k4
      have iev4 := iev3.mono k4
      have entE : ∀ {n : Option V} {HH}, Ex K4 HH → EvD (tOp (rIxT K) (tVar 6) (tVar 7)) [some v1, some v2, some v3, some v4, some (.str "load"), some (.int (r : Nat)), some ev, some (.int (k : Nat)), n, none, none] HH (eS ent) := fun e => ed_ixT (ed_var rfl (iev4.mono e)) (ed_var rfl (.int _)) (atI_nat (by rw [List.getElem?_map, hent]; rfl))
      have hr0 : toldAllows x (.load q r k) = fits x (some ent) (reg x q) := by simp [toldAllows, hent]
      rw [hr0] at kk
      refine q_asgN (ds := (restOf ent).map .str) (EvN.is (en_lc (l := ent) (emb := .str) .str (fun w => !plain w) (wk_tup (entE (Ex.refl K4))) (by omega) (fun s hs z H5 e5 iz => ⟨et_D (ed_niL (ss := ["integer", "none"]) (ed_var rfl iz) (en_lst (ea1 (ed_s _) (ea1 (ed_s _) ea0)) (by show 2 ≤ 100000; omega)).toD), fun _ => ed_var rfl iz⟩) (fun _ _ _ => rfl)) rfl) ?_
      intro np nxs K5 nn k5 gp gx
      have g5 := g4.trans k5
      have inm : Im K5 (.ref np) (.list ((restOf ent).map .str)) := .lst gp gx
      show tSeq (tIfS _ _ _) _ _ [some v1, some v2, some v3, some v4, some (.str "load"), some (.int (r : Nat)), some ev, some (.int (k : Nat)), some (.ref np), none, none] K5
      refine q_when (b := false) (et_is (et_D (ed_eqS (ed_var rfl (.str _)) (ed_s "get"))) (by decide +kernel)) (fun z => by cases z) ?_
      intro _ J6 j6
      have f6 := (g5).trans j6
      have h6 := (k5).trans j6
      have inm := inm.mono j6
      refine q_when (b := false) (et_is (et_D (ed_eqS (ed_var rfl (.str _)) (ed_s "set"))) (by decide +kernel)) (fun z => by cases z) ?_
      intro _ J7 j7
      have f7 := (f6).trans j7
      have h7 := (h6).trans j7
      have inm := inm.mono j7
      refine q_when (b := true) (et_is (et_D (ed_eqS (ed_var rfl (.str _)) (ed_s "load"))) (by decide +kernel)) ?_ (fun z => by cases z)
      intro _ J8 j8
      have f8 := (f7).trans j8
      have h8 := (h7).trans j8
      have inm := inm.mono j8
      refine s_retD (d := .bool (fits x (some ent) (reg x q))) ?_ fun v H2 e2 iv => kk v H2 ((f8).trans e2) iv
      rw [fits_rest]
      cases hre : restOf ent with
      | nil =>
        rw [hre] at inm
        exact ed_or (a := true) (b := false) (EvD.is (ed_eqI (ed_lenL (ed_var rfl inm)) (ed_i 0)) rfl) (fun z => by cases z)
      | cons m l =>
        rw [hre] at inm
        exact ed_or (a := false) (EvD.is (ed_eqI (ed_lenL (ed_var rfl inm)) (ed_i 0)) (by simp; omega)) (fun _ => ed_eqS (ed_ixL (ed_var rfl inm) (ed_i 0) (atI_nat (j := 0) rfl)) (regE rfl f8 (ed_ixT (ed_var rfl (i4.mono f8)) (ed_i 1) rfl) ok.1))
  | store r k q =>
    refine q_asgD (d := .str "store") (ed_ixT (ed_var rfl i4) (ed_i 0) rfl) ?_
    intro wv H1 e1 iw
    have ew := iw.s
    subst ew
    show tSeq (tIfS _ _ _) _ _ [some v1, some v2, some v3, some v4, some (.str "store"), none, none, none, none, none, none] H1
    refine q_when (b := false) (et_is (et_D (ed_inL (ss := ["same", "size", "drop"]) (ed_var rfl (.str _)) (en_lst (ea1 (ed_s _) (ea1 (ed_s _) (ea1 (ed_s _) ea0))) (by show 3 ≤ 100000; omega)).toD)) (by decide +kernel)) (fun z => by cases z) ?_
    intro _ J1 j1
    have f1 := (e1).trans j1
    refine q_when (b := false) (et_is (et_D (ed_eqS (ed_var rfl (.str _)) (ed_s "root"))) (by decide +kernel)) (fun z => by cases z) ?_
    intro _ J2 j2
    have f2 := (f1).trans j2
    refine q_when (b := false) (et_is (et_D (ed_eqS (ed_var rfl (.str _)) (ed_s "take"))) (by decide +kernel)) (fun z => by cases z) ?_
    intro _ J3 j3
    have f3 := (f2).trans j3
    refine q_when (b := false) (et_is (et_D (ed_eqS (ed_var rfl (.str _)) (ed_s "copy"))) (by decide +kernel)) (fun z => by cases z) ?_
    intro _ J4 j4
    have f4 := (f3).trans j4
    refine q_asgD (d := .int (r : Nat)) (ed_if (b := false) (et_is (et_D (ed_eqS (ed_var rfl (.str _)) (ed_s "load"))) (by decide +kernel)) (fun z => by cases z) (fun _ => (ed_ixT (ed_var rfl (i4.mono f4)) (ed_i 1) rfl))) ?_
    intro pv K1 k1 ipv
    have epv := ipv.i
    subst epv
    have g1 := (f4).trans k1
    show tSeq (tAsg _ _) _ _ [some v1, some v2, some v3, some v4, some (.str "store"), some (.int (r : Nat)), none, none, none, none, none] K1
    obtain ⟨gn, hgn, hc⟩ := G.at ok.2
    have hc1 : cellsOf x.1 (reg x r) = some (cAt x r) := by rw [reg_at ok.2] at hgn; cases hgn; exact hc
    refine q_asgD (d := eC (cAt x r)) (ed_callQ (ea1 (ed_var rfl (i1.mono g1)) (ea1 (regE rfl g1 (ed_var rfl (.int _)) ok.2) ea0)) ⟨x.1, reg x r, cAt x r, rfl, G.len, hc1, rfl⟩) ?_
    intro ev K2 k2 iev
    have g2 := g1.trans k2
    show tSeq (tIfS _ _ _) _ _ [some v1, some v2, some v3, some v4, some (.str "store"), some (.int (r : Nat)), some ev, none, none, none, none] K2
    have one := O _ _ hc1
    have fewc := G.few _ _ hc1
    refine q_when (b := false) (et_is (et_D (ed_eqS (ed_var rfl (.str _)) (ed_s "put"))) (by decide +kernel)) (fun z => by cases z) ?_
    intro _ J5 j5
    have f5 := (g2).trans j5
    refine q_asgD (d := .int (k : Nat)) (ed_if (b := false) (et_is (et_D (ed_eqS (ed_var rfl (.str _)) (ed_s "load"))) (by decide +kernel)) (fun z => by cases z) (fun _ => (ed_ixT (ed_var rfl (i4.mono f5)) (ed_i 2) rfl))) ?_
    intro kv K3 k3 ikv
    have ekv := ikv.i
    subst ekv
    have g3 := (f5).trans k3
    have iev3 := (iev.mono j5).mono k3
    show tSeq (tIfS _ _ _) _ _ [some v1, some v2, some v3, some v4, some (.str "store"), some (.int (r : Nat)), some ev, some (.int (k : Nat)), none, none, none] K3
    refine q_when (b := decide ((cAt x r).length ≤ k)) (et_is (et_D (ed_B0 (ed_var rfl (.int _)) (ed_lenT (ed_var rfl iev3)))) (by rw [List.length_map]; exact decide_eq_decide.mpr (by omega))) ?_ ?_
    · intro hb K4 k4
      have hk : (cAt x r)[k]? = none := List.getElem?_eq_none (of_decide_eq_true hb)
      have hr0 : toldAllows x (.store r k q) = false := by simp [toldAllows, hk, fits, keepsN]
      rw [hr0] at kk
      exact s_retD (ed_b false) fun v H2 e2 iv => kk v H2 ((g3.trans k4).trans e2) iv
    · intro hb K4 k4
      have hlt : k < (cAt x r).length := by have := of_decide_eq_false hb; omega
      obtain ⟨ent, hent⟩ : ∃ ent, (cAt x r)[k]? = some ent := ⟨_, List.getElem?_eq_getElem hlt⟩
      obtain ⟨o1, o2, o3⟩ := one ent (List.mem_of_getElem? hent)
      have g4 := g3.trans k4
      have iev4 := iev3.mono k4
      have entE : ∀ {n : Option V} {HH}, Ex K4 HH → EvD (tOp (rIxT K) (tVar 6) (tVar 7)) [some v1, some v2, some v3, some v4, some (.str "store"), some (.int (r : Nat)), some ev, some (.int (k : Nat)), n, none, none] HH (eS ent) := fun e => ed_ixT (ed_var rfl (iev4.mono e)) (ed_var rfl (.int _)) (atI_nat (by rw [List.getElem?_map, hent]; rfl))
      have hr0 : toldAllows x (.store r k q) = keepsN (some ent) (reg x q) := by simp [toldAllows, hent]
      rw [hr0] at kk
      refine q_asgN (ds := (restOf ent).map .str) (EvN.is (en_lc (l := ent) (emb := .str) .str (fun w => !plain w) (wk_tup (entE (Ex.refl K4))) (by omega) (fun s hs z H5 e5 iz => ⟨et_D (ed_niL (ss := ["integer", "none"]) (ed_var rfl iz) (en_lst (ea1 (ed_s _) (ea1 (ed_s _) ea0)) (by show 2 ≤ 100000; omega)).toD), fun _ => ed_var rfl iz⟩) (fun _ _ _ => rfl)) rfl) ?_
      intro np nxs K5 nn k5 gp gx
      have g5 := g4.trans k5
      have inm : Im K5 (.ref np) (.list ((restOf ent).map .str)) := .lst gp gx
      show tSeq (tIfS _ _ _) _ _ [some v1, some v2, some v3, some v4, some (.str "store"), some (.int (r : Nat)), some ev, some (.int (k : Nat)), some (.ref np), none, none] K5
      refine q_when (b := false) (et_is (et_D (ed_eqS (ed_var rfl (.str _)) (ed_s "get"))) (by decide +kernel)) (fun z => by cases z) ?_
      intro _ J6 j6
      have f6 := (g5).trans j6
      have h6 := (k5).trans j6
      have inm := inm.mono j6
      refine q_when (b := false) (et_is (et_D (ed_eqS (ed_var rfl (.str _)) (ed_s "set"))) (by decide +kernel)) (fun z => by cases z) ?_
      intro _ J7 j7
      have f7 := (f6).trans j7
      have h7 := (h6).trans j7
      have inm := inm.mono j7
      refine q_when (b := false) (et_is (et_D (ed_eqS (ed_var rfl (.str _)) (ed_s "load"))) (by decide +kernel)) (fun z => by cases z) ?_
      intro _ J8 j8
      have f8 := (f7).trans j8
      have h8 := (h7).trans j8
      have inm := inm.mono j8
      refine s_retD (d := .bool (keepsN (some ent) (reg x q))) ?_ fun v H2 e2 iv => kk v H2 ((f8).trans e2) iv
      have shR : ∀ w ∈ ([reg x q] : List Str), PyData.strOk w = true := fun w hw => by
        have : w = reg x q := by simpa using hw
        rw [this]; exact RO q ok.1
      refine EvD.is (ed_and (ed_inT (ed_s "none") (entE h8)) (fun _ => ed_eqD (ed_var rfl inm) (en_lst (ea1 (regE rfl f8 (ed_ixT (ed_var rfl (i4.mono f8)) (ed_i 3) rfl) ok.1) ea0) (by show 1 ≤ 100000; omega)).toD (shaped_lst fun w hw => o2 w (List.mem_filter.mp hw).1) (shaped_lst (ss := [reg x q]) shR))) ?_
      exact congrArg PyData.bool (keeps_rest o1)
  | root i q =>
    refine q_asgD (d := .str "root") (ed_ixT (ed_var rfl i4) (ed_i 0) rfl) ?_
    intro wv H1 e1 iw
    have ew := iw.s
    subst ew
    show tSeq (tIfS _ _ _) _ _ [some v1, some v2, some v3, some v4, some (.str "root"), none, none, none, none, none, none] H1
    refine q_when (b := false) (et_is (et_D (ed_inL (ss := ["same", "size", "drop"]) (ed_var rfl (.str _)) (en_lst (ea1 (ed_s _) (ea1 (ed_s _) (ea1 (ed_s _) ea0))) (by show 3 ≤ 100000; omega)).toD)) (by decide +kernel)) (fun z => by cases z) ?_
    intro _ J1 j1
    have f1 := (e1).trans j1
    refine q_when (b := true) (et_is (et_D (ed_eqS (ed_var rfl (.str _)) (ed_s "root"))) (by decide +kernel)) ?_ (fun z => by cases z)
    intro _ J2 j2
    have f2 := (f1).trans j2
    exact s_retD (ed_eqS (rooE rfl f2 (ed_ixT (ed_var rfl (i4.mono f2)) (ed_i 1) rfl) ok.1) (regE rfl f2 (ed_ixT (ed_var rfl (i4.mono f2)) (ed_i 2) rfl) ok.2)) fun v H2 e2 iv => kk v H2 ((f2).trans e2) iv
  | take q i =>
    refine q_asgD (d := .str "take") (ed_ixT (ed_var rfl i4) (ed_i 0) rfl) ?_
    intro wv H1 e1 iw
    have ew := iw.s
    subst ew
    show tSeq (tIfS _ _ _) _ _ [some v1, some v2, some v3, some v4, some (.str "take"), none, none, none, none, none, none] H1
    refine q_when (b := false) (et_is (et_D (ed_inL (ss := ["same", "size", "drop"]) (ed_var rfl (.str _)) (en_lst (ea1 (ed_s _) (ea1 (ed_s _) (ea1 (ed_s _) ea0))) (by show 3 ≤ 100000; omega)).toD)) (by decide +kernel)) (fun z => by cases z) ?_
    intro _ J1 j1
    have f1 := (e1).trans j1
    refine q_when (b := false) (et_is (et_D (ed_eqS (ed_var rfl (.str _)) (ed_s "root"))) (by decide +kernel)) (fun z => by cases z) ?_
    intro _ J2 j2
    have f2 := (f1).trans j2
    refine q_when (b := true) (et_is (et_D (ed_eqS (ed_var rfl (.str _)) (ed_s "take"))) (by decide +kernel)) ?_ (fun z => by cases z)
    intro _ J3 j3
    have f3 := (f2).trans j3
    exact s_retD (ed_eqS (regE rfl f3 (ed_ixT (ed_var rfl (i4.mono f3)) (ed_i 1) rfl) ok.2) (rooE rfl f3 (ed_ixT (ed_var rfl (i4.mono f3)) (ed_i 2) rfl) ok.1)) fun v H2 e2 iv => kk v H2 ((f3).trans e2) iv
  | copy q r =>
    refine q_asgD (d := .str "copy") (ed_ixT (ed_var rfl i4) (ed_i 0) rfl) ?_
    intro wv H1 e1 iw
    have ew := iw.s
    subst ew
    show tSeq (tIfS _ _ _) _ _ [some v1, some v2, some v3, some v4, some (.str "copy"), none, none, none, none, none, none] H1
    refine q_when (b := false) (et_is (et_D (ed_inL (ss := ["same", "size", "drop"]) (ed_var rfl (.str _)) (en_lst (ea1 (ed_s _) (ea1 (ed_s _) (ea1 (ed_s _) ea0))) (by show 3 ≤ 100000; omega)).toD)) (by decide +kernel)) (fun z => by cases z) ?_
    intro _ J1 j1
    have f1 := (e1).trans j1
    refine q_when (b := false) (et_is (et_D (ed_eqS (ed_var rfl (.str _)) (ed_s "root"))) (by decide +kernel)) (fun z => by cases z) ?_
    intro _ J2 j2
    have f2 := (f1).trans j2
    refine q_when (b := false) (et_is (et_D (ed_eqS (ed_var rfl (.str _)) (ed_s "take"))) (by decide +kernel)) (fun z => by cases z) ?_
    intro _ J3 j3
    have f3 := (f2).trans j3
    refine q_when (b := true) (et_is (et_D (ed_eqS (ed_var rfl (.str _)) (ed_s "copy"))) (by decide +kernel)) ?_ (fun z => by cases z)
    intro _ J4 j4
    have f4 := (f3).trans j4
    exact s_retD (ed_eqS (regE rfl f4 (ed_ixT (ed_var rfl (i4.mono f4)) (ed_i 1) rfl) ok.1) (regE rfl f4 (ed_ixT (ed_var rfl (i4.mono f4)) (ed_i 2) rfl) ok.2)) fun v H2 e2 iv => kk v H2 ((f4).trans e2) iv
  | drop q =>
    refine q_asgD (d := .str "drop") (ed_ixT (ed_var rfl i4) (ed_i 0) rfl) ?_
    intro wv H1 e1 iw
    have ew := iw.s
    subst ew
    show tSeq (tIfS _ _ _) _ _ [some v1, some v2, some v3, some v4, some (.str "drop"), none, none, none, none, none, none] H1
    refine q_when (b := true) (et_is (et_D (ed_inL (ss := ["same", "size", "drop"]) (ed_var rfl (.str _)) (en_lst (ea1 (ed_s _) (ea1 (ed_s _) (ea1 (ed_s _) ea0))) (by show 3 ≤ 100000; omega)).toD)) (by decide +kernel)) ?_ (fun z => by cases z)
    intro _ J1 j1
    have f1 := (e1).trans j1
    exact s_retD (ed_b true) fun v H2 e2 iv => kk v H2 ((f1).trans e2) iv
  | same q r =>
    refine q_asgD (d := .str "same") (ed_ixT (ed_var rfl i4) (ed_i 0) rfl) ?_
    intro wv H1 e1 iw
    have ew := iw.s
    subst ew
    show tSeq (tIfS _ _ _) _ _ [some v1, some v2, some v3, some v4, some (.str "same"), none, none, none, none, none, none] H1
    refine q_when (b := true) (et_is (et_D (ed_inL (ss := ["same", "size", "drop"]) (ed_var rfl (.str _)) (en_lst (ea1 (ed_s _) (ea1 (ed_s _) (ea1 (ed_s _) ea0))) (by show 3 ≤ 100000; omega)).toD)) (by decide +kernel)) ?_ (fun z => by cases z)
    intro _ J1 j1
    have f1 := (e1).trans j1
    exact s_retD (ed_b true) fun v H2 e2 iv => kk v H2 ((f1).trans e2) iv
  | size r =>
    refine q_asgD (d := .str "size") (ed_ixT (ed_var rfl i4) (ed_i 0) rfl) ?_
    intro wv H1 e1 iw
    have ew := iw.s
    subst ew
    show tSeq (tIfS _ _ _) _ _ [some v1, some v2, some v3, some v4, some (.str "size"), none, none, none, none, none, none] H1
    refine q_when (b := true) (et_is (et_D (ed_inL (ss := ["same", "size", "drop"]) (ed_var rfl (.str _)) (en_lst (ea1 (ed_s _) (ea1 (ed_s _) (ea1 (ed_s _) ea0))) (by show 3 ≤ 100000; omega)).toD)) (by decide +kernel)) ?_ (fun z => by cases z)
    intro _ J1 j1
    have f1 := (e1).trans j1
    exact s_retD (ed_b true) fun v H2 e2 iv => kk v H2 ((f1).trans e2) iv
end
end K35
set_option Elab.async false
set_option linter.all false
set_option maxRecDepth 100000
set_option maxHeartbeats 4000000
namespace K35
open PySem PySem.Spec PyProof.Rows L2 Evl Pd
section
variable {σ : L2.St} {H : Hp} {te : TE} {ta : TA} {v : V} {D : Ends} {tz : TS}
theorem tupA {Q : VK} (k : ta σ H fun xs H1 => xs.length ≤ sizeLine ∧ ∀ p, H1 p = none → Q (.ref p) (upd H1 p (.tup xs))) : tTup ta σ H Q := k
theorem cstA {Q : VK} (k : Q v H) : tC v σ H Q := k
theorem nilA {Q : List V → Hp → Prop} (k : Q [] H) : tNil σ H Q := k
theorem q_par3 {i j l : Nat} (h : ta σ H fun vs H1 => ∃ u v w, vs = [u, v, w] ∧ tz D (((σ.set i (some u)).set j (some v)).set l (some w)) H1) : tSeq (tPar3 i j l ta) tz D σ H := h
theorem q_par2 {i j : Nat} (h : ta σ H fun vs H1 => ∃ v w, vs = [v, w] ∧ tz D ((σ.set i (some v)).set j (some w)) H1) : tSeq (tPar i j ta) tz D σ H := h
/-- an if without else, both ways going on -/
theorem q_if2 {tt : TT} {tu : TS} {b : Bool} (h : EvT tt σ H b) (h1 : b = true → ∀ H1, Ex H H1 → tu { D with nx := tz D } σ H1) (h2 : b = false → ∀ H1, Ex H H1 → tz D σ H1) : tSeq (tIfS tt tu tNext) tz D σ H := q_when h h1 h2
end
def sp_law_op : Sp := fun vs H Q _ => ∃ (t c : Addr) (R G : Nat), vs = [.ref t, .int (R : Nat), .int (G : Nat)] ∧ Tape t c H ∧ R ≤ 1000 ∧ 1 ≤ G ∧ G ≤ 1000 ∧ ∀ op, OpOk R G op → ∀ v H', Go t c H H' → Im H' v (eOp op) → Q v H'
theorem ims_ops {H : Hp} {xs : List V} {ops : List Op} (h : Ims H xs (ops.map eOp)) {i : Nat} {x : V} (hx : xs[i]? = some x) : ∃ op ∈ ops, Im H x (eOp op) := by
  obtain ⟨d, hd, im⟩ := h.get hx
  obtain ⟨op, ho, rfl⟩ := map_inv hd
  exact ⟨op, List.mem_of_getElem? ho, im⟩
section
variable {P : Program} {w : World} {K : PySem.W.Frag} {mg : Str → Option Value} {base : Heap}
theorem cal__law_operation (S : Src K mg "_law_operation" st__law_operation ["tape", "roots", "registers"]) (T : Txt K mg) (C__law_draw : Cal P w K mg base CX0 1 "_law_draw" ["tape", "many"] sp_draw) (C__law_pick : Cal P w K mg base CX0 2 "_law_pick" ["tape", "row"] sp_pick) : Cal P w K mg base CX0 3 "_law_operation" ["tape", "roots", "registers"] sp_law_op := by
  have sc := sc__law_operation
  refine S.cal (k := 2) sc (fun vs H Q E h => by obtain ⟨_, _, _, _, rfl, _⟩ := h; rfl) (fun f cdv A outer s H vs Q E hr h => ⟨_, (pss_cons (ps_par3 (i := 3) (j := 4) (l := 5) rfl sc.nd rfl rfl rfl (by decide) (by decide) (by decide) rfl rfl rfl (pa_cons (pe_cal C__law_draw (hr.mono (by first | decide | omega)) rfl pass0 (pa_cons (pv 0) (pa_cons (pv 2) pa_nil))) (pa_cons (pe_cal C__law_draw (hr.mono (by first | decide | omega)) rfl pass0 (pa_cons (pv 0) (pa_cons (pv 2) pa_nil))) (pa_cons (pe_cal C__law_draw (hr.mono (by first | decide | omega)) rfl pass0 (pa_cons (pv 0) (pa_cons pe_int pa_nil))) pa_nil))) (by rfl))
  (pss_cons (ps_set (i := 6) sc.nd rfl (by first | exact Or.inl rfl | exact Or.inr rfl) (pe_lst (pa_cons (pe_tup (pa_cons pe_str (pa_cons (pv 3) (pa_cons (pe_op op_add pe_int (pv 5)) pa_nil)))) (pa_cons (pe_tup (pa_cons pe_str (pa_cons (pv 3) (pa_cons (pv 5) pa_nil)))) (pa_cons (pe_tup (pa_cons pe_str (pa_cons (pv 3) (pa_cons (pv 5) (pa_cons pe_int pa_nil))))) (pa_cons (pe_tup (pa_cons pe_str (pa_cons (pv 4) (pa_cons (pv 3) (pa_cons (pv 5) pa_nil))))) (pa_cons (pe_tup (pa_cons pe_str (pa_cons (pv 3) (pa_cons (pv 5) (pa_cons (pv 4) pa_nil))))) (pa_cons (pe_tup (pa_cons pe_str (pa_cons (pv 4) (pa_cons (pv 3) pa_nil)))) (pa_cons (pe_tup (pa_cons pe_str (pa_cons (pv 4) pa_nil))) pa_nil)))))))))
  (pss_cons (ps_set (i := 6) sc.nd rfl (by first | exact Or.inl rfl | exact Or.inr rfl) (pe_op op_cat (pv 6) (pe_lst (pa_cons (pe_tup (pa_cons pe_str (pa_cons (pv 4) (pa_cons (pv 3) pa_nil)))) (pa_cons (pe_tup (pa_cons pe_str (pa_cons (pv 3) pa_nil))) pa_nil)))))
  (pss_cons (ps_if (pt_cmpR op_gt (pv 1) pe_int (nomark _)) (pss_one (ps_set (i := 6) sc.nd rfl (by first | exact Or.inl rfl | exact Or.inr rfl) (pe_op op_cat (pv 6) (pe_lst (pa_cons (pe_tup (pa_cons pe_str (pa_cons (pe_cal C__law_draw (hr.mono (by first | decide | omega)) rfl pass0 (pa_cons (pv 0) (pa_cons (pv 1) pa_nil))) (pa_cons (pv 4) pa_nil)))) (pa_cons (pe_tup (pa_cons pe_str (pa_cons (pv 4) (pa_cons (pe_cal C__law_draw (hr.mono (by first | decide | omega)) rfl pass0 (pa_cons (pv 0) (pa_cons (pv 1) pa_nil))) pa_nil)))) pa_nil)))))) pss_nil)
  (pss_one (ps_ret (pe_cal C__law_pick (hr.mono (by first | decide | omega)) rfl pass0 (pa_cons (pv 0) (pa_cons (pv 6) pa_nil))))))))), ?_⟩)
  obtain ⟨t, c, R, G, rfl, T0, hR, hG1, hG2, kk⟩ := h
  show tSeq (tPar3 _ _ _ _) _ _ [some (.ref t), some (.int (R : Nat)), some (.int (G : Nat)), none, none, none, none] H
  refine q_par3 (consA (drawn (it := 0) (m := G) rfl T0 (ed_var rfl (.int _)) hG1 hG2 fun r hr1 H1 g1 => consA (drawn (it := 0) (m := G) rfl g1.2 (ed_var rfl (.int _)) hG1 hG2 fun q hq H2 g2 => consA (drawn (it := 0) (m := 4) rfl g2.2 (ed_i _) (by omega) (by omega) fun k hk H3 g3 => nilA ⟨_, _, _, rfl, ?_⟩))))
  have GC := (g1.trans g2).trans g3
  show tSeq (tAsg _ _) _ _ [some (.ref t), some (.int (R : Nat)), some (.int (G : Nat)), some (.int (r : Nat)), some (.int (q : Nat)), some (.int (k : Nat)), none] H3
  have vI : ∀ {σ : L2.St} {H1 : Hp} {i : Nat} {n : Nat}, σ[i]? = some (some (.int (n : Nat))) → EvD (tVar i) σ H1 (.int (n : Nat)) := fun h => ed_var h (.int _)
  refine q_asgN (ds := ([.put r (1 + k), .get r k, .set r k, .load q r k, .store r k q, .copy q r, .drop q] : List Op).map eOp) (en_lst
    (ea1 (ed_tup (ea1 (ed_s _) (ea1 (vI rfl) (ea1 (EvD.is (ed_I0 (g := fun i j => i + j) (ed_i 1) (vI (n := k) rfl)) (by congr 1)) ea0))) (by show 3 ≤ 100000; omega))
    (ea1 (ed_tup (ea1 (ed_s _) (ea1 (vI rfl) (ea1 (vI rfl) ea0))) (by show 3 ≤ 100000; omega))
    (ea1 (ed_tup (ea1 (ed_s _) (ea1 (vI rfl) (ea1 (vI rfl) (ea1 (ed_i 5) ea0)))) (by show 4 ≤ 100000; omega))
    (ea1 (ed_tup (ea1 (ed_s _) (ea1 (vI rfl) (ea1 (vI rfl) (ea1 (vI rfl) ea0)))) (by show 4 ≤ 100000; omega))
    (ea1 (ed_tup (ea1 (ed_s _) (ea1 (vI rfl) (ea1 (vI rfl) (ea1 (vI rfl) ea0)))) (by show 4 ≤ 100000; omega))
    (ea1 (ed_tup (ea1 (ed_s _) (ea1 (vI rfl) (ea1 (vI rfl) ea0))) (by show 3 ≤ 100000; omega))
    (ea1 (ed_tup (ea1 (ed_s _) (ea1 (vI rfl) ea0)) (by show 2 ≤ 100000; omega)) ea0))))))) (by show 7 ≤ 100000; omega)) ?_
  intro p xs H4 np e4 a4 b4
  have im4 : Im H4 (.ref p) (.list _) := .lst a4 b4
  show tSeq (tAsg _ _) _ _ [some (.ref t), some (.int (R : Nat)), some (.int (G : Nat)), some (.int (r : Nat)), some (.int (q : Nat)), some (.int (k : Nat)), some (.ref p)] H4
  refine q_asgN (ds := ([.put r (1 + k), .get r k, .set r k, .load q r k, .store r k q, .copy q r, .drop q, .same q r, .size r] : List Op).map eOp) (EvN.is (en_cat (ed_var rfl im4) (en_lst
    (ea1 (ed_tup (ea1 (ed_s _) (ea1 (vI rfl) (ea1 (vI rfl) ea0))) (by show 3 ≤ 100000; omega))
    (ea1 (ed_tup (ea1 (ed_s _) (ea1 (vI rfl) ea0)) (by show 2 ≤ 100000; omega)) ea0)) (by show 2 ≤ 100000; omega)).toD (by show 7 + 2 ≤ 100000; omega)) rfl) ?_
  intro p2 xs2 H5 np2 e5 a5 b5
  have G5 := (GC.ex e4).ex e5
  have nin5 := (GC.ex e4).2.notin np2
  show tSeq (tIfS _ _ _) _ _ [some (.ref t), some (.int (R : Nat)), some (.int (G : Nat)), some (.int (r : Nat)), some (.int (q : Nat)), some (.int (k : Nat)), some (.ref p2)] H5
  have okAll : ∀ op ∈ ([.put r (1 + k), .get r k, .set r k, .load q r k, .store r k q, .copy q r, .drop q, .same q r, .size r] : List Op), OpOk R G op := fun op h => by
    simp only [List.mem_cons, List.not_mem_nil, or_false] at h
    rcases h with rfl | rfl | rfl | rfl | rfl | rfl | rfl | rfl | rfl <;> simp [OpOk, hr1, hq]
  -- the end: one of them is picked
  have fin : ∀ (p3 : Addr) (xs3 : List V) (ops : List Op) (H6 : Hp), Go t c H H6 → p3 ∉ [t, c] → H6 p3 = some (.lst xs3) → Ims H6 xs3 (ops.map eOp) → ops ≠ [] → ops.length ≤ 100 → (∀ op ∈ ops, OpOk R G op) →
      tRet (tCall sp_pick [] E0 (tCons (tVar 0) (tCons (tVar 6) tNil))) { nx := fun x H' => Q V.non H', rt := Q } [some (.ref t), some (.int (R : Nat)), some (.int (G : Nat)), some (.int (r : Nat)), some (.int (q : Nat)), some (.int (k : Nat)), some (.ref p3)] H6 := by
    intro p3 xs3 ops H6 G6 n3 a6 b6 hne hlen hok
    have hxl : xs3.length = ops.length := by rw [b6.length, List.length_map]
    refine picked (it := 0) rfl G6.2 (ev_var rfl) n3 a6 (fun z => by subst z; simp at hxl; exact hne (List.length_eq_zero_iff.mp hxl.symm)) (by omega) fun i x hx H7 g7 => ?_
    obtain ⟨op, ho, im⟩ := ims_ops b6 hx
    exact kk op (hok op ho) x H7 (G6.trans g7) (g7.im (still_op op) im)
  refine q_when (b := decide (0 < R)) (et_is (et_D (ed_B0 (vI rfl) (ed_i 0))) (by show decide ((0 : Int) < (R : Int)) = _; exact decide_eq_decide.mpr (by omega))) ?_ ?_
  · intro hb H6 e6
    have hRp : 1 ≤ R := of_decide_eq_true hb
    have a6 := e6 _ _ a5
    have b6 := b5.mono e6
    have G6 := G5.ex e6
    refine op_run (ev_var rfl) fun H7 e7 => lstA (consA (tupA (consA (cstA (consA (drawn (it := 0) (m := R) rfl (G6.ex e7).2 (vI rfl) hRp hR fun i1 hi1 H8 g8 => consA (var_run rfl (nilA ⟨by show 3 ≤ sizeLine; decide, fun pa hpa => consA (tupA (consA (cstA (consA (var_run rfl (consA (drawn (it := 0) (m := R) rfl (g8.ex (Ex.new hpa)).2 (vI rfl) hRp hR fun i2 hi2 H9 g9 => nilA ⟨by show 3 ≤ sizeLine; decide, fun pb hpb => nilA ⟨by show 2 ≤ sizeLine; decide, fun pc hpc => ?_⟩⟩)))))))⟩))))))))
    have G7 := G6.ex e7
    have g79 : Go t c H7 H9 := (g8.ex (Ex.new hpa)).trans g9
    have gb : Go t c H7 (upd H9 pb (.tup [.str "take", .int (q : Nat), .int (i2 : Nat)])) := g79.ex (Ex.new hpb)
    have gc := gb.ex (Ex.new (o := .lst [.ref pa, .ref pb]) hpc)
    have a7 := e7 _ _ a6
    refine ⟨p2, pc, _, _, rfl, rfl, gc.at nin5 a7, upd_same, sz_of (by rw [b6.length]; show 9 + 2 ≤ 100000; omega), fun pd hpd => ?_⟩
    have pa9 : H9 pa = some (.tup [.str "root", .int (i1 : Nat), .int (q : Nat)]) := g9.1.2 _ _ upd_same
    have npab : pa ≠ pb := fun z => by rw [z, hpb] at pa9; cases pa9
    have GE := G7.trans (gc.ex (Ex.new (o := .lst (xs2 ++ [.ref pa, .ref pb])) hpd))
    have npc : pc ≠ pb := fun z => by rw [z, upd_same] at hpc; cases hpc
    have npa : pa ≠ pc := fun z => by rw [← z, upd_ne npab, pa9] at hpc; cases hpc
    refine fin pd _ ([.put r (1 + k), .get r k, .set r k, .load q r k, .store r k q, .copy q r, .drop q, .same q r, .size r, .root i1 q, .take q i2] : List Op) _ GE ?_ upd_same ?_ (by simp) (by simp) (fun op h => ?_)
    · exact (G7.trans gc).2.notin hpd
    · refine Ims.append (ds := ([.put r (1 + k), .get r k, .set r k, .load q r k, .store r k q, .copy q r, .drop q, .same q r, .size r] : List Op).map eOp) (es := [eOp (.root i1 q), eOp (.take q i2)]) ?_ ?_
      · exact (((b6.mono e7).tx gc.1.2 (still_ops _)).mono (Ex.new hpd))
      · refine .cons (.tup (Ex.new hpd _ _ (Ex.new hpc _ _ (Ex.new hpb _ _ pa9))) (.cons (.str _) (.cons (.int _) (.cons (.int _) .nil)))) (.cons (.tup (Ex.new hpd _ _ (Ex.new hpc _ _ upd_same)) (.cons (.str _) (.cons (.int _) (.cons (.int _) .nil)))) .nil)
    · have : op ∈ ([.put r (1 + k), .get r k, .set r k, .load q r k, .store r k q, .copy q r, .drop q, .same q r, .size r] : List Op) ∨ op = .root i1 q ∨ op = .take q i2 := by
        simp only [List.mem_cons, List.not_mem_nil, or_false] at h ⊢
        rcases h with h | h | h | h | h | h | h | h | h | h | h <;> simp [h]
      rcases this with h | rfl | rfl
      · exact okAll op h
      · exact ⟨hi1, hq⟩
      · exact ⟨hi2, hq⟩
  · intro hb H6 e6
    exact fin p2 xs2 _ H6 (G5.ex e6) nin5 (e6 _ _ a5) (b5.mono e6) (by simp) (by simp) okAll
end
end K35
set_option Elab.async false
set_option linter.all false
set_option maxRecDepth 100000
set_option maxHeartbeats 4000000
namespace K35
open PySem PySem.Spec PyProof.Rows L2 Evl Pd
/-- data that outlives draws -/
def Sv (t c : Addr) (H : Hp) (v : V) (d : PyData) : Prop := ∀ H', Go t c H H' → Im H' v d
inductive SvL (t c : Addr) (H : Hp) : List V → List PyData → Prop
  | nil : SvL t c H [] []
  | cons {v : V} {vs : List V} {d : PyData} {ds : List PyData} : Sv t c H v d → SvL t c H vs ds → SvL t c H (v :: vs) (d :: ds)
section
variable {t c : Addr} {H H' : Hp} {σ : L2.St} {te ta tb : TE} {v : V} {d : PyData} {ds es : List PyData} {K : PySem.W.Frag}
theorem Sv.mono (T : Tape t c H) (e : Ex H H') (h : Sv t c H v d) : Sv t c H' v d := fun H2 g => h H2 ((Go.of T e).trans g)
theorem SvL.mono (T : Tape t c H) (e : Ex H H') : ∀ {vs : List V} {ds : List PyData}, SvL t c H vs ds → SvL t c H' vs ds
  | _, _, .nil => .nil
  | _, _, .cons h1 h2 => .cons (h1.mono T e) (SvL.mono T e h2)
theorem SvL.len : ∀ {vs : List V} {ds : List PyData}, SvL t c H vs ds → vs.length = ds.length
  | _, _, .nil => rfl
  | _, _, .cons _ h => by simp [SvL.len h]
theorem SvL.get : ∀ {vs : List V} {ds : List PyData} {i : Nat} {v : V}, SvL t c H vs ds → vs[i]? = some v → ∃ d ∈ ds, Sv t c H v d
  | _, _, _, _, .nil, h => by simp at h
  | _, _, 0, v, .cons h1 h2, e => by simp at e; subst e; exact ⟨_, List.mem_cons_self .., h1⟩
  | _, _, i + 1, v, .cons h1 h2, e => by
    obtain ⟨d, hd, s⟩ := SvL.get (i := i) h2 (by simpa using e)
    exact ⟨d, List.mem_cons_of_mem _ hd, s⟩
theorem SvL.append : ∀ {vs ws : List V} {ds es : List PyData}, SvL t c H vs ds → SvL t c H ws es → SvL t c H (vs ++ ws) (ds ++ es)
  | _, _, _, _, .nil, k => k
  | _, _, _, _, .cons h1 h2, k => .cons h1 (SvL.append h2 k)
theorem SvL.ims : ∀ {vs : List V} {ds : List PyData}, SvL t c H vs ds → ∀ H', Go t c H H' → Ims H' vs ds
  | _, _, .nil, _, _ => .nil
  | _, _, .cons h1 h2, H', g => .cons (h1 H' g) (SvL.ims h2 H' g)
def EvS (t c : Addr) (te : TE) (σ : L2.St) (H : Hp) (d : PyData) : Prop := ∀ H1, Ex H H1 → ∀ Q : VK, (∀ v H2, Ex H1 H2 → Sv t c H2 v d → Q v H2) → te σ H1 Q
def EvSs (t c : Addr) (ta : TA) (σ : L2.St) (H : Hp) (ds : List PyData) : Prop := ∀ H1, Ex H H1 → ∀ Q : List V → Hp → Prop, (∀ vs H2, Ex H1 H2 → SvL t c H2 vs ds → Q vs H2) → ta σ H1 Q
def EvSN (t c : Addr) (te : TE) (σ : L2.St) (H : Hp) (ds : List PyData) : Prop := ∀ H1, Ex H H1 → ∀ Q : VK, (∀ p xs H2, H1 p = none → Ex H1 H2 → H2 p = some (.lst xs) → SvL t c H2 xs ds → Q (.ref p) H2) → te σ H1 Q
theorem es_still (h : EvD te σ H d) (hs : still d = true) : EvS t c te σ H d := fun H1 e Q q => h H1 e Q fun v H2 e2 iv => q v H2 e2 fun H3 g => g.im hs iv
theorem es_new (T : Tape t c H) (h : EvN te σ H ds) (hs : stills ds = true) : EvS t c te σ H (.list ds) := fun H1 e Q q => h H1 e Q fun p xs H2 n e2 a b => q _ H2 e2 fun H3 g => .lst (g.at ((T.ex e).notin n) a) (b.tx g.1.2 hs)
theorem es0 : EvSs t c tNil σ H [] := fun H1 _ _ q => q _ H1 (Ex.refl H1) .nil
theorem es1 {tr : TA} (T : Tape t c H) (h : EvS t c ta σ H d) (hr : EvSs t c tr σ H ds) : EvSs t c (tCons ta tr) σ H (d :: ds) := fun H1 e _ q =>
  h H1 e _ fun v H2 e2 i2 => hr H2 (e.trans e2) _ fun vs H3 e3 i3 => q _ H3 (e2.trans e3) (.cons (i2.mono (T.ex (e.trans e2)) e3) i3)
theorem es_tup {ta : TA} (T : Tape t c H) (h : EvSs t c ta σ H ds) (hl : ds.length ≤ 100000) : EvS t c (tTup ta) σ H (.tuple ds) := fun H1 e _ q =>
  h H1 e _ fun vs H2 e2 i2 => ⟨sz_of (by rw [i2.len]; exact hl), fun p hp => q _ _ (e2.trans (Ex.new hp)) fun H3 g => .tup (g.1.2 _ _ upd_same) (i2.ims H3 ((Go.of (T.ex (e.trans e2)) (Ex.new hp)).trans g))⟩
theorem es_lst {ta : TA} (T : Tape t c H) (h : EvSs t c ta σ H ds) (hl : ds.length ≤ 100000) : EvSN t c (tLst ta) σ H ds := fun H1 e _ q =>
  h H1 e _ fun vs H2 e2 i2 => ⟨sz_of (by rw [i2.len]; exact hl), fun p hp => q p vs _ (fresh_back e2 hp) (e2.trans (Ex.new hp)) upd_same (i2.mono (T.ex (e.trans e2)) (Ex.new hp))⟩
theorem es_cat {p : Addr} {xs : List V} (T : Tape t c H) (ha : Ev ta σ H (.ref p)) (h1 : H p = some (.lst xs)) (h2 : SvL t c H xs ds) (hb : EvSN t c tb σ H es) (hz : ds.length + es.length ≤ 100000) : EvSN t c (tOp rCat ta tb) σ H (ds ++ es) := fun H1 e Q q =>
  ha H1 e _ fun H2 e2 => hb H2 (e.trans e2) _ fun p' ys H3 n3 e3 a3 b3 => by
    have e13 := e2.trans e3
    have s1 := (h2.mono T (e.trans e13))
    have T3 := T.ex (e.trans e13)
    exact ⟨p, p', xs, ys, rfl, rfl, (e.trans e13) _ _ h1, a3, sz_of (by rw [s1.len, b3.len]; exact hz), fun r hr => q r _ _ (fresh_back e13 hr) (e13.trans (Ex.new hr)) upd_same ((s1.mono T3 (Ex.new hr)).append (b3.mono T3 (Ex.new hr)))⟩
theorem q_asgSN {i : Nat} {D : Ends} {tz : TS} (h : EvSN t c te σ H ds) (k : ∀ p xs H1, H p = none → Ex H H1 → H1 p = some (.lst xs) → SvL t c H1 xs ds → tz D (σ.set i (some (.ref p))) H1) : tSeq (tAsg te (gName i)) tz D σ H := h H (Ex.refl H) _ fun p xs H1 n e a b => k p xs H1 n e a b
theorem dropS {sp : Sp} {E : L2.St → XK} {ta : TA} {D : Ends} (k : ta σ H fun vs H1 => sp vs H1 (fun _ H2 => D.nx σ H2) (E σ)) : tDrop (tCallS sp E ta) D σ H := k
end
def sp_refused : Sp := fun vs H Q _ => ∃ (t c : Addr) (v1 v2 v3 : V) (x : TS3), vs = [.ref t, v1, v2, v3] ∧ Tape t c H ∧ Im H v1 (eT x.1) ∧ Im H v2 (eS x.2.1) ∧ Im H v3 (eS x.2.2) ∧ LT x.1 ∧ Gd x ∧ x.2.1.length + x.2.2.length ≤ 900 ∧ ∀ H', Go t c H H' → Q (.bl true) H'
theorem no_cells {tb : List TRow} {n : Str} (h : LT tb) (hn : n ∉ N3) : cellsOf tb n = none := by
  unfold cellsOf
  rw [find_no fun r hr => decide_eq_false fun z => hn (by rw [← z]; exact h.n3 hr)]
  rfl
theorem bad_words : ("other" : Str) ∉ N3 ∧ ("none" : Str) ∉ N3 := by
  have : (!decide (("other" : Str) ∈ N3) && !decide (("none" : Str) ∈ N3)) = true := by decide +kernel
  simpa using this
theorem ok_names {x : TS3} (G : Gd x) {d : PyData} (h : d ∈ x.2.1.map PyData.str ∨ d ∈ x.2.2.map PyData.str) : OkName x.1 d := by
  obtain ⟨n, hn, rfl⟩ : ∃ n, n ∈ x.2.1 ++ x.2.2 ∧ d = .str n := by
    rcases h with h | h
    · obtain ⟨n, hn, rfl⟩ := List.mem_map.mp h
      exact ⟨n, List.mem_append_left _ hn, rfl⟩
    · obtain ⟨n, hn, rfl⟩ := List.mem_map.mp h
      exact ⟨n, List.mem_append_right _ hn, rfl⟩
  have := G.all n hn
  cases e : cellsOf x.1 n with
  | none => rw [e] at this; cases this
  | some c => exact ⟨n, c, rfl, e⟩
theorem bads {x : TS3} {r0 : TRow} (h : LT x.1) (hr : r0 ∈ x.1) (G : Gd x) (hl : x.2.1.length + x.2.2.length ≤ 900) : ∀ d ∈ ([.tuple [.none, eS x.2.1, eS x.2.2], .tuple [eT [(r0.1, [])], eS x.2.1, eS x.2.2], .tuple [eT x.1, .list (x.2.1.map .str), eS x.2.2], .tuple [eT x.1, eS x.2.1, .none],
    .tuple [eT x.1, .tuple (x.2.1.map .str ++ [.str "other"]), eS x.2.2], .tuple [eT x.1, eS x.2.1, .tuple (x.2.2.map .str ++ [.none])], .tuple [eT x.1, eS x.2.1, .tuple (x.2.2.map .str ++ [.str "none"])]] : List PyData), ∃ d1 d2 d3, d = .tuple [d1, d2, d3] ∧ BadK d1 d2 d3 := by
  have st : ∀ l : List Str, stills (l.map PyData.str) = true := fun l => stills_of fun _ _ => rfl
  have sta : ∀ a b : List PyData, stills a = true → stills b = true → stills (a ++ b) = true := by
    intro a b ha hb
    induction a with
    | nil => exact hb
    | cons y l ih =>
      have ha' : still y = true ∧ stills l = true := Bool.and_eq_true_iff.mp ha
      show (still y && stills (l ++ b)) = true
      rw [ha'.1, ih ha'.2]; rfl
  intro d hd
  simp only [List.mem_cons, List.not_mem_nil, or_false] at hd
  rcases hd with rfl | rfl | rfl | rfl | rfl | rfl | rfl
  · exact ⟨_, _, _, rfl, .inl (.inr ⟨.inl rfl, rfl⟩)⟩
  · refine ⟨_, _, _, rfl, .inl (.inl ⟨[(r0.1, [])], ⟨by simp, fun r hr' => ?_⟩, rfl, by unfold isTable rowOk; simp⟩)⟩
    have : r = (r0.1, []) := by simpa using hr'
    rw [this]
    exact ⟨by have := (n3_ok _ (h.n3 hr)).2.1; show r0.1.length ≤ 1000; omega, by simp, fun e he => by cases he⟩
  · exact ⟨_, _, _, rfl, .inr ⟨x.1, h.gt, rfl, h.isT, .inl ⟨_, rfl⟩⟩⟩
  · exact ⟨_, _, _, rfl, .inr ⟨x.1, h.gt, rfl, h.isT, .inr (.inl ⟨_, rfl, rfl⟩)⟩⟩
  · refine ⟨_, _, _, rfl, .inr ⟨x.1, h.gt, rfl, h.isT, .inr (.inr ⟨_, _, rfl, rfl, sta _ _ (sta _ _ (st _) rfl) (st _), by rw [List.length_append, List.length_map, List.length_map]; show _ + 1 + _ ≤ _; omega, x.2.1.length, .str "other", ?_, .inr ⟨_, rfl, no_cells h bad_words.1⟩, fun e he => ?_⟩)⟩⟩
    · rw [List.append_assoc, List.getElem?_append_right (by simp)]; simp
    · rw [List.append_assoc, List.take_append_of_le_length (by simp), List.take_of_length_le (by simp)] at he
      exact ok_names G (.inl he)
  · refine ⟨_, _, _, rfl, .inr ⟨x.1, h.gt, rfl, h.isT, .inr (.inr ⟨_, _, rfl, rfl, sta _ _ (st _) (sta _ _ (st _) rfl), by rw [List.length_append, List.length_map, List.length_map]; show _ + (_ + 1) ≤ _; omega, x.2.1.length + x.2.2.length, .none, ?_, .inl rfl, fun e he => ?_⟩)⟩⟩
    · rw [← List.append_assoc, List.getElem?_append_right (by simp)]; simp
    · rw [← List.append_assoc, List.take_append_of_le_length (by simp), List.take_of_length_le (by simp)] at he
      exact ok_names G (List.mem_append.mp he)
  · refine ⟨_, _, _, rfl, .inr ⟨x.1, h.gt, rfl, h.isT, .inr (.inr ⟨_, _, rfl, rfl, sta _ _ (st _) (sta _ _ (st _) rfl), by rw [List.length_append, List.length_map, List.length_map]; show _ + (_ + 1) ≤ _; omega, x.2.1.length + x.2.2.length, .str "none", ?_, .inr ⟨_, rfl, no_cells h bad_words.2⟩, fun e he => ?_⟩)⟩⟩
    · rw [← List.append_assoc, List.getElem?_append_right (by simp)]; simp
    · rw [← List.append_assoc, List.take_append_of_le_length (by simp), List.take_of_length_le (by simp)] at he
      exact ok_names G (List.mem_append.mp he)
section
variable {P : Program} {w : World} {K : PySem.W.Frag} {mg : Str → Option Value} {base : Heap} {CK : Addr}
theorem cal__law_refused (S : Src K mg "_law_refused" st__law_refused ["tape", "table", "roots", "registers"]) (T : Txt K mg) (XK : XCls K mg "BadKinds" CK) (C__law_pick : Cal P w K mg base CX0 2 "_law_pick" ["tape", "row"] sp_pick)
    (C_keeping : Cal P w K mg base (L2.CX P w) 6 "keeping" ["table", "roots", "registers", "program"] (sp_kf CK Kept)) (C_kind_fault : Cal P w K mg base (L2.CX P w) 6 "kind_fault" ["table", "roots", "registers", "program"] (sp_kf CK Fault)) : Cal P w K mg base CX0 7 "_law_refused" ["tape", "table", "roots", "registers"] sp_refused := by
  have sc := sc__law_refused
  refine S.cal (k := 6) sc (fun vs H Q E h => by obtain ⟨_, _, _, _, _, _, rfl, _⟩ := h; rfl) (fun f cdv A outer s H vs Q E hr h => ⟨_, (pss_cons (ps_set (i := 4) sc.nd rfl (by first | exact Or.inl rfl | exact Or.inr rfl) (pe_ix (k_ix_tup (K := K) rfl) (pe_ix (k_ix_tup (K := K) rfl) (pv 1) pe_int (fun _ _ => rfl)) pe_int (fun _ _ => rfl)))
  (pss_cons (ps_set (i := 5) sc.nd rfl (by first | exact Or.inl rfl | exact Or.inr rfl) (pe_lst (pa_cons (pe_tup (pa_cons pe_non (pa_cons (pv 2) (pa_cons (pv 3) pa_nil)))) (pa_cons (pe_tup (pa_cons (pe_tup (pa_cons (pe_tup (pa_cons (pv 4) (pa_cons (pe_tup pa_nil) pa_nil))) pa_nil)) (pa_cons (pv 2) (pa_cons (pv 3) pa_nil)))) (pa_cons (pe_tup (pa_cons (pv 1) (pa_cons (pe_callTy (k_list_of (K := K) rfl) (by rfl) T.n_list (by decide +kernel) (pa_cons (pv 2) pa_nil)) (pa_cons (pv 3) pa_nil)))) (pa_cons (pe_tup (pa_cons (pv 1) (pa_cons (pv 2) (pa_cons pe_non pa_nil)))) pa_nil))))))
  (pss_cons (ps_set (i := 5) sc.nd rfl (by first | exact Or.inl rfl | exact Or.inr rfl) (pe_op op_cat (pv 5) (pe_lst (pa_cons (pe_tup (pa_cons (pv 1) (pa_cons (pe_op (k_catA (K := K) rfl) (pv 2) (pe_tup (pa_cons pe_str pa_nil))) (pa_cons (pv 3) pa_nil)))) (pa_cons (pe_tup (pa_cons (pv 1) (pa_cons (pv 2) (pa_cons (pe_op (k_catA (K := K) rfl) (pv 3) (pe_tup (pa_cons pe_non pa_nil))) pa_nil)))) (pa_cons (pe_tup (pa_cons (pv 1) (pa_cons (pv 2) (pa_cons (pe_op (k_catA (K := K) rfl) (pv 3) (pe_tup (pa_cons pe_str pa_nil))) pa_nil)))) pa_nil))))))
  (pss_cons (ps_par (i := 6) (j := 7) rfl sc.nd rfl rfl (by decide) rfl rfl (pa_cons (pe_cal C__law_pick (hr.mono (by first | decide | omega)) rfl pass0 (pa_cons (pv 0) (pa_cons (pv 5) pa_nil))) (pa_cons pe_int pa_nil)) (by rfl))
  (pss_cons (ps_for PassesOwn.never rfl (pi_range1 (by rfl) T.n_range (pa_cons pe_int pa_nil)) (pg_name (i := 8) sc.nd rfl (by first | exact Or.inl rfl | exact Or.inr rfl)) (pss_one (ps_try_only (Wout := fun _ _ _ _ => False) rfl rfl ⟨rfl, by decide, .inl XK.g⟩ takes0 (fun W pn xe tk po => (pss_one (ps_if (pt_cmpR op_eq (pv 8) pe_int (nomark _)) (pss_one (ps_expr (pe_calS C_keeping (hr.mono (by first | decide | omega)) rfl tk (pa_cons (pe_ix (k_ix_tup (K := K) rfl) (pv 6) pe_int (fun _ _ => rfl)) (pa_cons (pe_ix (k_ix_tup (K := K) rfl) (pv 6) pe_int (fun _ _ => rfl)) (pa_cons (pe_ix (k_ix_tup (K := K) rfl) (pv 6) pe_int (fun _ _ => rfl)) (pa_cons (pe_tup pa_nil) pa_nil))))))) (pss_one (ps_expr (pe_calS C_kind_fault (hr.mono (by first | decide | omega)) rfl tk (pa_cons (pe_ix (k_ix_tup (K := K) rfl) (pv 6) pe_int (fun _ _ => rfl)) (pa_cons (pe_ix (k_ix_tup (K := K) rfl) (pv 6) pe_int (fun _ _ => rfl)) (pa_cons (pe_ix (k_ix_tup (K := K) rfl) (pv 6) pe_int (fun _ _ => rfl)) (pa_cons (pe_tup pa_nil) pa_nil)))))))))) (fun a oe cls d pn hz hf => (pss_one (ps_set (i := 7) sc.nd rfl (by first | exact Or.inl rfl | exact Or.inr rfl) (pe_op op_add (pv 7) pe_int)))))))
  (pss_one (ps_ret (pe_cmpR op_eq (pv 7) pe_int (nomark _))))))))), ?_⟩)
  obtain ⟨t, c, v1, v2, v3, x, rfl, T0, i1, i2, i3, lt, G, hl, kk⟩ := h
  have hlen := lt.len
  obtain ⟨r0, hr0, hr0m⟩ : ∃ r0, x.1[0]? = some r0 ∧ r0 ∈ x.1 := ⟨x.1[0], List.getElem?_eq_getElem (by omega), List.getElem_mem _⟩
  show tSeq (tAsg _ _) _ _ [some (.ref t), some v1, some v2, some v3, none, none, none, none, none] H
  refine q_asgD (d := .str r0.1) (ed_ixT (ed_ixT (ed_var rfl i1) (ed_i 0) (atI_nat (j := 0) (by rw [List.getElem?_map, hr0]; rfl))) (ed_i 0) rfl) ?_
  intro nv H1 e1 inv
  have env := inv.s
  subst env
  have T1 := T0.ex e1
  show tSeq (tAsg _ _) _ _ [some (.ref t), some v1, some v2, some v3, some (.str r0.1), none, none, none, none] H1
  have w1 : ∀ {σ : L2.St} {HH}, σ[1]? = some (some v1) → Ex H HH → EvD (tVar 1) σ HH (eT x.1) := fun h e => ed_var h (i1.mono e)
  have w2 : ∀ {σ : L2.St} {HH}, σ[2]? = some (some v2) → Ex H HH → EvD (tVar 2) σ HH (eS x.2.1) := fun h e => ed_var h (i2.mono e)
  have w3 : ∀ {σ : L2.St} {HH}, σ[3]? = some (some v3) → Ex H HH → EvD (tVar 3) σ HH (eS x.2.2) := fun h e => ed_var h (i3.mono e)
  have s1 : still (eT x.1) = true := still_rows _
  have s2 : still (eS x.2.1) = true := still_eS _
  have s3 : still (eS x.2.2) = true := still_eS _
  refine q_asgSN (t := t) (c := c) (ds := [.tuple [.none, eS x.2.1, eS x.2.2], .tuple [eT [(r0.1, [])], eS x.2.1, eS x.2.2], .tuple [eT x.1, .list (x.2.1.map .str), eS x.2.2], .tuple [eT x.1, eS x.2.1, .none]]) (es_lst T1
    (es1 T1 (es_tup T1 (es1 T1 (es_still ed_n rfl) (es1 T1 (es_still (w2 rfl e1) s2) (es1 T1 (es_still (w3 rfl e1) s3) es0))) (by show 3 ≤ 100000; omega))
    (es1 T1 (es_tup T1 (es1 T1 (es_still (ed_tup (ea1 (ed_tup (ea1 (ed_var rfl (.str _)) (ea1 (ed_tup ea0 (by show 0 ≤ 100000; omega)) ea0)) (by show 2 ≤ 100000; omega)) ea0) (by show 1 ≤ 100000; omega)) (still_rows [(r0.1, [])])) (es1 T1 (es_still (w2 rfl e1) s2) (es1 T1 (es_still (w3 rfl e1) s3) es0))) (by show 3 ≤ 100000; omega))
    (es1 T1 (es_tup T1 (es1 T1 (es_still (w1 rfl e1) s1) (es1 T1 (es_new T1 (en_lstOfT (w2 rfl e1)) (stills_of fun _ _ => rfl)) (es1 T1 (es_still (w3 rfl e1) s3) es0))) (by show 3 ≤ 100000; omega))
    (es1 T1 (es_tup T1 (es1 T1 (es_still (w1 rfl e1) s1) (es1 T1 (es_still (w2 rfl e1) s2) (es1 T1 (es_still ed_n rfl) es0))) (by show 3 ≤ 100000; omega)) es0)))) (by show 4 ≤ 100000; omega)) ?_
  intro p xs H2 np e2 a2 b2
  have e02 := e1.trans e2
  have T2 := T0.ex e02
  show tSeq (tAsg _ _) _ _ [some (.ref t), some v1, some v2, some v3, some (.str r0.1), some (.ref p), none, none, none] H2
  have lr : x.2.1.length ≤ 900 ∧ x.2.2.length ≤ 900 := by omega
  have stA : ∀ (l : List Str) (d : PyData), still d = true → still (.tuple (l.map PyData.str ++ [d])) = true := fun l d hd => by
    show stills _ = true
    induction l with
    | nil => show (still d && true) = true; rw [hd]; rfl
    | cons a l ih => exact ih
  refine q_asgSN (t := t) (c := c) (es_cat T2 (ev_var rfl) a2 b2 (es_lst (ds := [.tuple [eT x.1, .tuple (x.2.1.map .str ++ [.str "other"]), eS x.2.2], .tuple [eT x.1, eS x.2.1, .tuple (x.2.2.map .str ++ [.none])], .tuple [eT x.1, eS x.2.1, .tuple (x.2.2.map .str ++ [.str "none"])]]) T2
    (es1 T2 (es_tup T2 (es1 T2 (es_still (w1 rfl e02) s1) (es1 T2 (es_still (ed_catA (w2 rfl e02) (ed_tup (ea1 (ed_s _) ea0) (by show 1 ≤ 100000; omega)) (by rw [List.length_map]; show _ + 1 ≤ _; omega)) (stA _ _ rfl)) (es1 T2 (es_still (w3 rfl e02) s3) es0))) (by show 3 ≤ 100000; omega))
    (es1 T2 (es_tup T2 (es1 T2 (es_still (w1 rfl e02) s1) (es1 T2 (es_still (w2 rfl e02) s2) (es1 T2 (es_still (ed_catA (w3 rfl e02) (ed_tup (ea1 ed_n ea0) (by show 1 ≤ 100000; omega)) (by rw [List.length_map]; show _ + 1 ≤ _; omega)) (stA _ _ rfl)) es0))) (by show 3 ≤ 100000; omega))
    (es1 T2 (es_tup T2 (es1 T2 (es_still (w1 rfl e02) s1) (es1 T2 (es_still (w2 rfl e02) s2) (es1 T2 (es_still (ed_catA (w3 rfl e02) (ed_tup (ea1 (ed_s _) ea0) (by show 1 ≤ 100000; omega)) (by rw [List.length_map]; show _ + 1 ≤ _; omega)) (stA _ _ rfl)) es0))) (by show 3 ≤ 100000; omega)) es0))) (by show 3 ≤ 100000; omega)) (by show 4 + 3 ≤ 100000; omega)) ?_
  intro p2 xs2 H3 np2 e3 a3 b3
  have T3 := T2.ex e3
  show tSeq (tPar _ _ _) _ _ [some (.ref t), some v1, some v2, some v3, some (.str r0.1), some (.ref p2), none, none, none] H3
  have hx2 := b3.len
  refine q_par2 (consA (picked (it := 0) rfl T3 (ev_var rfl) (T2.notin np2) a3 (fun z => by rw [z] at hx2; cases hx2) (by rw [hx2]; show 4 + 3 ≤ 1000; omega) fun i xv hxv H4 g4 => consA (cstA (nilA ⟨_, _, rfl, ?_⟩))))
  obtain ⟨d, hd, sv1⟩ := b3.get hxv
  obtain ⟨d1, d2, d3, rfl, B⟩ := bads lt hr0m G hl d hd
  have im := sv1 H4 g4
  have G4 : Go t c H H4 := (Go.of T0 (e02.trans e3)).trans g4
  show tSeq (tFor _ _ _) _ _ [some (.ref t), some v1, some v2, some v3, some (.str r0.1), some (.ref p2), some xv, some (.int 0), none] H4
  refine q_forM [] (wm_range (n := 2) (ea1 (ed_i _) ea0) (by omega)) (fun i σ' H' => (∃ tn, σ' = [some (.ref t), some v1, some v2, some v3, some (.str r0.1), some (.ref p2), some xv, some (.int (i : Nat)), tn]) ∧ Ex H4 H')
    (fun H5 e5 => ⟨⟨none, rfl⟩, e5⟩) (fun i σ' H5 H6 q e => ⟨q.1, q.2.trans e⟩) ?_ ?_
  · rintro i dz y σ' H5 H6 hdz e56 iy ⟨⟨tn, rfl⟩, e46⟩
    obtain ⟨j, hj, rfl⟩ := map_inv hdz
    have ey := iy.i
    subst ey
    refine gN ?_
    have args : ∀ HH, Ex H6 HH → EvDs (tCons (tOp (rIxT K) (tVar 6) (tC (.int 0))) (tCons (tOp (rIxT K) (tVar 6) (tC (.int 1))) (tCons (tOp (rIxT K) (tVar 6) (tC (.int 2))) (tCons (tTup tNil) tNil)))) [some (.ref t), some v1, some v2, some v3, some (.str r0.1), some (.ref p2), some xv, some (.int (i : Nat)), some (.int (j : Nat))] HH [d1, d2, d3, .tuple (([] : List Op).map eOp)] := fun HH e =>
      ea1 (ed_ixT (ed_var rfl (im.mono (e46.trans e))) (ed_i 0) rfl) (ea1 (ed_ixT (ed_var rfl (im.mono (e46.trans e))) (ed_i 1) rfl) (ea1 (ed_ixT (ed_var rfl (im.mono (e46.trans e))) (ed_i 2) rfl) (ea1 (ed_tup ea0 (by show 0 ≤ 100000; omega)) ea0)))
    show tIfS (tTest _) (tDrop (tCallS (sp_kf CK Kept) _ _)) (tDrop (tCallS (sp_kf CK Fault) _ _)) _ [some (.ref t), some v1, some v2, some v3, some (.str r0.1), some (.ref p2), some xv, some (.int (i : Nat)), some (.int (j : Nat))] H6
    have suite : ∀ H8, Ex H6 H8 → ∀ (a : Addr), H8 a = none → (∃ tn, [some (.ref t), some v1, some v2, some v3, some (.str r0.1), some (.ref p2), some xv, some (.int ((i : Nat) + 1)), some (V.int (j : Nat))] = [some (V.ref t), some v1, some v2, some v3, some (.str r0.1), some (.ref p2), some xv, some (.int ((i + 1 : Nat) : Int)), tn]) ∧ Ex H4 H8 := fun H8 e8 a ha => ⟨⟨some (.int (j : Nat)), rfl⟩, e46.trans e8⟩
    refine s_if (et_D (ed_eqI (ed_var rfl (.int _)) (ed_i 0))) ?_ ?_
    all_goals
      intro _ H7 e7
      refine dropS (args H7 e7 H7 (Ex.refl _) _ fun vs H8 e8 iv => ⟨d1, d2, d3, [], iv, by simp, .inr ⟨B, fun H9 e9 => ⟨true, XK.exm, fun _ a ha => ?_, fun z => (by cases z)⟩⟩⟩)
      have e69 := (e7.trans e8).trans e9
      refine s_asgD (ed_I0 (g := fun i j => i + j) (ed_var (v := .int (i : Nat)) rfl (.int _)) (ed_i 1)) fun v HA eA iv => ?_
      have ev := iv.i
      subst ev
      exact ⟨⟨⟨_, rfl⟩, e46.trans (e69.trans eA)⟩, ExM.of (e56.trans (e69.trans eA))⟩
  · rintro σ' H5 ⟨⟨tn, rfl⟩, e45⟩
    refine s_retD (ed_eqI (ed_var rfl (.int _)) (ed_i 2)) fun v H6 e6 iv => ?_
    have ev := iv.b
    subst ev
    exact kk H6 (G4.ex (e45.trans e6))
end
end K35
set_option Elab.async false
set_option linter.all false
set_option maxRecDepth 100000
set_option maxHeartbeats 8000000
namespace K35
open PySem PySem.Spec PyProof.Rows L2 Evl Pd
def sp_law (K : PySem.W.Frag) : Sp := fun vs H Q _ => ∃ (a : Addr) (ns : List Int), vs = [.ref a] ∧ SqL K H a (ns.map V.int) ∧ ns.length ≤ 63 ∧ ∀ H', Q (.bl true) H'
/-- the answer of kind_fault -/
def dF (x : TS3) (ops : List Op) : PyData := match ops.findIdx? (fun op => !toldAllows x op) with | none => .none | some j => .int (j : Nat)
theorem fault_is {x : TS3} {ops : List Op} {d : PyData} (h : Fault x ops d) : d = dF x ops := by
  unfold dF
  rcases h with ⟨rfl, h⟩ | ⟨i, op, rfl, h1, h2, h3⟩
  · have : ops.findIdx? (fun op => !toldAllows x op) = none := List.findIdx?_eq_none_iff.mpr fun op ho => by rw [h op ho]; rfl
    rw [this]
  · have : ops.findIdx? (fun op => !toldAllows x op) = some i := by
      rw [List.findIdx?_eq_some_iff_getElem]
      have hi := (List.getElem?_eq_some_iff.mp h1).1
      have he := (List.getElem?_eq_some_iff.mp h1).2
      refine ⟨hi, by rw [he, h2]; rfl, fun j hj => ?_⟩
      have hj' : j < ops.length := by omega
      have hm : ops[j] ∈ ops.take i := by
        rw [List.mem_iff_getElem?]
        exact ⟨j, by rw [List.getElem?_take, if_pos hj, List.getElem?_eq_getElem hj']⟩
      rw [h3 _ hm]; decide
    rw [this]
theorem dF_kept (x : TS3) (ops : List Op) : dF x (ops.filter (toldAllows x)) = .none := by
  unfold dF
  have : (ops.filter (toldAllows x)).findIdx? (fun op => !toldAllows x op) = none := List.findIdx?_eq_none_iff.mpr fun op ho => by rw [(List.mem_filter.mp ho).2]; rfl
  rw [this]
theorem range_filter {α : Type} [Inhabited α] (p : α → Bool) : ∀ l : List α, ((List.range l.length).filter fun i => p (l.getD i default)).map (fun i => l.getD i default) = l.filter p := by
  intro l
  have key : ∀ (l : List α) , (List.range l.length).map (fun i => l.getD i default) = l := by
    intro l
    apply List.ext_getElem?
    intro i
    rw [List.getElem?_map]
    by_cases h : i < l.length
    · rw [List.getElem?_range h, List.getElem?_eq_getElem h]
      simp [List.getD, h]
    · rw [List.getElem?_eq_none (by simpa using h), List.getElem?_eq_none (by omega)]
      rfl
  conv => rhs; rw [← key l]
  rw [List.filter_map]
  rfl
instance : Inhabited Op := ⟨.drop 0⟩
theorem oks_op (n : Nat) (op : Op) : OkS (n + 1) (eOp op) := by
  have hw : ∀ w ∈ (["put", "get", "set", "load", "store", "root", "take", "copy", "drop", "same", "size"] : List Str), PyData.strOk w = true := by
    have : (["put", "get", "set", "load", "store", "root", "take", "copy", "drop", "same", "size"] : List Str).all (fun w => PyData.strOk w) = true := by decide +kernel
    intro w h
    exact List.all_eq_true.mp this w h
  cases op <;>
    (refine .tup n _ (by simp) fun y hy => ?_
     simp only [List.mem_cons, List.not_mem_nil, or_false] at hy
     first
       | (rcases hy with rfl | rfl | rfl | rfl <;> first | exact .int _ _ | exact .str _ _ (hw _ (by simp)))
       | (rcases hy with rfl | rfl | rfl <;> first | exact .int _ _ | exact .str _ _ (hw _ (by simp)))
       | (rcases hy with rfl | rfl <;> first | exact .int _ _ | exact .str _ _ (hw _ (by simp))))
theorem oks_ops {ops : List Op} (h : ops.length ≤ 1000) : OkS 4 (.tuple (ops.map eOp)) := .tup 3 _ (by rw [List.length_map]; exact h) fun d hd => by
  obtain ⟨op, _, rfl⟩ := List.mem_map.mp hd
  exact oks_op 2 op
theorem oks_dF (x : TS3) (ops : List Op) : OkS 4 (dF x ops) := by
  unfold dF
  split
  · exact .non _
  · exact .int _ _
/-- tables of the law keep what is asked of them -/
theorem lt_cells {tb : List TRow} (h : LT tb) {n : Str} {c : List (List Str)} (hc : cellsOf tb n = some c) : ∃ r ∈ tb, r.2 = c := by
  unfold cellsOf at hc
  cases e : tb.find? (fun r => decide (r.1 = n)) with
  | none => rw [e] at hc; cases hc
  | some r =>
    rw [e] at hc
    exact ⟨r, List.mem_of_find?_eq_some e, Option.some.inj hc⟩
theorem lt_has {tb : List TRow} {n : Str} (hn : n ∈ namesOf tb) : (cellsOf tb n).isSome = true := by
  obtain ⟨r, hr, rfl⟩ := List.mem_map.mp hn
  unfold cellsOf
  cases e : tb.find? (fun r' => decide (r'.1 = r.1)) with
  | none =>
    have := List.find?_eq_none.mp e r hr
    simp at this
  | some r' => rfl
theorem lt_gd {x : TS3} (h : LT x.1) (hn : ∀ n ∈ x.2.1 ++ x.2.2, n ∈ namesOf x.1) : Gd x := ⟨by have := h.len; omega, fun n hn' => lt_has (hn n hn'), fun n c hc => by
  obtain ⟨r, hr, rfl⟩ := lt_cells h hc
  have := (h.rows r hr).2.1
  omega⟩
theorem lt_one {x : TS3} (h : LT x.1) : OneT x := fun n c hc e he => by
  obtain ⟨r, hr, rfl⟩ := lt_cells h hc
  obtain ⟨h1, h2, h3, h4⟩ := (h.rows r hr).2.2 e he
  refine ⟨?_, fun w hw => (w9_ok w (h3 w hw)).2, by omega⟩
  unfold isEntry at h4
  simp only [Bool.and_eq_true, decide_eq_true_eq] at h4
  have := h4.2.1
  omega
section
variable {P : Program} {w : World} {K : PySem.W.Frag} {mg : Str → Option Value} {base : Heap} {CK : Addr}
variable {σ : L2.St} {H : Hp} {ta : TA} {te : TE}
theorem cbA {r : List V → Hp → VK → Prop} {Q : VK} (k : ta σ H fun vs H1 => r vs H1 Q) : tCB r ta σ H Q := k
theorem ed_kf {A : TS3 → List Op → PyData → Prop} {x : TS3} {ops : List Op} {d0 : PyData} {E : XK} (h : EvDs ta σ H [eT x.1, eS x.2.1, eS x.2.2, .tuple (ops.map eOp)]) (G : GoodK x (eT x.1) (eS x.2.1) (eS x.2.2)) (ho : ∀ op ∈ ops, OpOk x.2.1.length x.2.2.length op) (hl : ops.length ≤ 1000) (hA : ∀ d, A x ops d → d = d0) : EvD (tCall (sp_kf CK A) [] E ta) σ H d0 := fun H1 e Q q => h H1 e _ fun vs H2 e2 iv =>
  ⟨_, _, _, ops, by rw [List.append_nil]; exact iv, hl, .inl ⟨x, G, ho, fun d v H' hd e' im => q v H' (e2.trans e') (hA d hd ▸ im)⟩⟩
theorem one_more1 {t c : Addr} {m : Nat} {Q : VK} {E : XK} (ht : σ[1]? = some (some (.ref t))) (T : Tape t c H) (h1 : 1 ≤ m) (h2 : m ≤ 1000) (k : ∀ r : Nat, r < m → ∀ H', Go t c H H' → Q (.int ((1 + r : Nat) : Int)) H') :
    tOp (rI0 fun i j => .int (i + j)) (tC (.int 1)) (tCall sp_draw [] E (tCons (tVar 1) (tCons (tC (.int (m : Nat))) tNil))) σ H Q :=
  op_run ev_c fun H1 e1 => drawn ht (T.ex e1) (ed_i _) h1 h2 fun r hr H' g => ⟨1, r, rfl, rfl, by
    have := k r hr H' ((Go.of T e1).trans g)
    have e : ((1 + r : Nat) : Int) = 1 + (r : Int) := by omega
    rw [e] at this
    exact this⟩
theorem strs_of {P : Str → Prop} : ∀ {ds : List PyData}, (∀ d ∈ ds, ∃ s, P s ∧ d = .str s) → ∃ rs : List Str, ds = rs.map .str ∧ ∀ s ∈ rs, P s
  | [], _ => ⟨[], rfl, fun s h => by cases h⟩
  | d :: ds, h => by
    obtain ⟨s, hs, rfl⟩ := h d (List.mem_cons_self ..)
    obtain ⟨rs, rfl, hr⟩ := strs_of fun d hd => h d (List.mem_cons_of_mem _ hd)
    exact ⟨s :: rs, rfl, fun u hu => by
      rcases List.mem_cons.mp hu with rfl | hu
      · exact hs
      · exact hr u hu⟩
theorem ops_of {P : Op → Prop} : ∀ {ds : List PyData}, (∀ d ∈ ds, ∃ s, P s ∧ d = eOp s) → ∃ rs : List Op, ds = rs.map eOp ∧ ∀ s ∈ rs, P s
  | [], _ => ⟨[], rfl, fun s h => by cases h⟩
  | d :: ds, h => by
    obtain ⟨s, hs, rfl⟩ := h d (List.mem_cons_self ..)
    obtain ⟨rs, rfl, hr⟩ := ops_of fun d hd => h d (List.mem_cons_of_mem _ hd)
    exact ⟨s :: rs, rfl, fun u hu => by
      rcases List.mem_cons.mp hu with rfl | hu
      · exact hs
      · exact hr u hu⟩
/-- tuple([_law_pick(tape, names) for k in a range]) -/
theorem picks {lo : Nat} {t c N : Addr} {ns : List Str} {ti : TA} {Q : VK} (T : Tape t c H) (hi : ∀ Q : List V → Hp → Prop, (∀ (n : Nat) H1, lo ≤ n → n ≤ 4 → Go t c H H1 → Q [.int (n : Nat)] H1) → ti σ H Q) (ht : ∀ x, ((wipe σ [11]).set 11 (some x))[1]? = some (some (.ref t))) (hN : ∀ x, ((wipe σ [11]).set 11 (some x))[4]? = some (some (.ref N))) (hw : ∀ x, wipe ((wipe σ [11]).set 11 (some x)) [11] = wipe σ [11])
    (hNn : N ∉ [t, c]) (hNa : H N = some (.lst (ns.map V.str))) (h1 : ns ≠ []) (h2 : ns.length ≤ 1000) (k : ∀ (rs : List Str) v H', lo ≤ rs.length → rs.length ≤ 4 → (∀ s ∈ rs, s ∈ ns) → Go t c H H' → Im H' v (eS rs) → Q v H') :
    tCB (rTupOf K) (tCons (tLc (iRng1 ti) (gName 11) tYes (tCall sp_pick [] E0 (tCons (tVar 1) (tCons (tVar 4) tNil))) [11]) tNil) σ H Q := by
  refine cbA (consA (lc_drawn (tp := t) (c := c) (C := fun src H2 => ∃ n, (lo ≤ n ∧ n ≤ 4) ∧ src = (List.range n).map (fun i => PyData.int (i : Nat)) ∧ Go t c H H2) (PD := fun d => ∃ s, s ∈ ns ∧ d = .str s) T (run_range fun Q q => hi Q fun n H1 hn0 hn g => q n H1 (by omega) ⟨n, ⟨hn0, hn⟩, rfl, g⟩) (fun src H2 h => ?_) (fun d h => by obtain ⟨s, _, rfl⟩ := h; rfl) ?_ hw ?_))
  · obtain ⟨n, hn, rfl, g⟩ := h
    exact ⟨by rw [List.length_map, List.length_range]; omega, g⟩
  · intro src i d x H2 H1 hc hd g im Q q
    refine picked (it := 1) (ht x) g.2 (ev_var (hN x)) hNn (g.at hNn hNa) (by simpa using h1) (by rw [List.length_map]; exact h2) fun i' x' hx' H3 g3 => ?_
    obtain ⟨s, hs, rfl⟩ := map_inv hx'
    exact q _ _ H3 g3 ⟨s, List.mem_of_getElem? hs, rfl⟩ (.str s)
  · intro p xs ds src H2 H' hc g hp hd hlen a b
    obtain ⟨n, hn, rfl, _⟩ := hc
    obtain ⟨rs, rfl, hrs⟩ := strs_of hd
    rw [List.length_map, List.length_map, List.length_range] at hlen
    refine nilA ⟨p, xs, rfl, .inl ⟨SqL.of a, fun l hl => ?_⟩⟩
    exact k rs _ _ (by omega) (by omega) hrs (g.ex (Ex.new hl)) (.tup upd_same (b.mono (Ex.new hl)))
end
end K35
set_option Elab.async false
set_option linter.all false
set_option maxRecDepth 100000
set_option maxHeartbeats 8000000
namespace K35
open PySem PySem.Spec PyProof.Rows L2 Evl Pd
theorem flat_bls : ∀ bs : List Bool, (bs.map V.bl).all flatV = true
  | [] => rfl
  | b :: bs => by rw [List.map_cons, List.all_cons, flat_bls bs]; rfl
section
variable {P : Program} {w : World} {K : PySem.W.Frag} {mg : Str → Option Value} {base : Heap} {CK : Addr}
theorem Ims.ofBls {H : Hp} : ∀ bs : List Bool, Ims H (bs.map V.bl) (bs.map PyData.bool)
  | [] => .nil
  | b :: bs => .cons (.bl b) (Ims.ofBls bs)
/-- good.index(False) if False in good else None -/
theorem ed_firstNo {σ : L2.St} {H : Hp} {te : TE} {x : TS3} {ops : List Op} (h : ∀ H1, Ex H H1 → EvD te σ H1 (.list (ops.map fun op => .bool (toldAllows x op)))) :
    EvD (tIf (tTest (tOp (rIn K false) (tC (.bl false)) te)) (tBM K "list" (rIndex K) te (tCons (tC (.bl false)) tNil)) (tC .non)) σ H (dF x ops) := by
  have hm : ops.map (fun op => PyData.bool (toldAllows x op)) = (ops.map (toldAllows x)).map PyData.bool := by rw [List.map_map]; rfl
  have hin : EvD (tOp (rIn K false) (tC (.bl false)) te) σ H (.bool (inV (.bl false) ((ops.map (toldAllows x)).map V.bl))) := ed_op (ed_b false) (h H (Ex.refl H)) fun v y H1 e hv hy Q q => by
    obtain ⟨p, xs, rfl, h1, h2⟩ := hy.l
    rw [hm] at h2
    have ex := h2.bls
    subst ex
    rw [hv.b]
    exact ⟨p, _, rfl, .inl (SqL.of h1), rfl, flat_bls _, q _ H1 (Ex.refl H1) (.bl _)⟩
  refine ed_if (et_D hin) (fun hb => ?_) (fun hb => ?_)
  · -- there is a first one
    unfold dF
    cases hf : ops.findIdx? (fun op => !toldAllows x op) with
    | none =>
      exfalso
      have hall := List.findIdx?_eq_none_iff.mp hf
      have : inV (.bl false) ((ops.map (toldAllows x)).map V.bl) = false := by
        unfold inV
        rw [List.any_eq_false]
        intro y hy
        obtain ⟨b, hb', rfl⟩ := List.mem_map.mp hy
        obtain ⟨op, ho, rfl⟩ := List.mem_map.mp hb'
        have := hall op ho
        have e : toldAllows x op = true := by simpa using this
        rw [e]
        simp [eqV]
      rw [this] at hb; cases hb
    | some j =>
      obtain ⟨hj, h1, h2⟩ := List.findIdx?_eq_some_iff_getElem.mp hf
      intro H1 e Q q
      refine h H (Ex.refl H) H1 e _ fun v H2 e2 iv => ?_
      obtain ⟨p, xs, rfl, g1, g2⟩ := iv.l
      rw [hm] at g2
      have ex := g2.bls
      subst ex
      refine ⟨Or.inl ⟨rfl, _, SqL.of g1⟩, p, (ops.map (toldAllows x)).map V.bl, .bl false, j, .bl false, rfl, rfl, SqL.of g1, rfl, flat_bls _, ?_, by simp [eqV], fun m z' hm' hz => ?_, q _ H2 e2 (.int _)⟩
      · rw [List.getElem?_map, List.getElem?_map, List.getElem?_eq_getElem hj]
        have : toldAllows x ops[j] = false := by simpa using h1
        simp [this]
      · have hml : m < ops.length := by omega
        rw [List.getElem?_map, List.getElem?_map, List.getElem?_eq_getElem hml] at hz
        have ez := Option.some.inj hz
        have : toldAllows x ops[m] = true := by simpa using h2 m hm'
        rw [← ez, this]
        simp [eqV]
  · unfold dF
    cases hf : ops.findIdx? (fun op => !toldAllows x op) with
    | none => exact ed_n
    | some j =>
      exfalso
      obtain ⟨hj, h1, h2⟩ := List.findIdx?_eq_some_iff_getElem.mp hf
      have : inV (.bl false) ((ops.map (toldAllows x)).map V.bl) = true := by
        unfold inV
        rw [List.any_eq_true]
        have e : toldAllows x ops[j] = false := by simpa using h1
        exact ⟨.bl false, List.mem_map.mpr ⟨false, List.mem_map.mpr ⟨ops[j], List.getElem_mem _, e⟩, rfl⟩, by simp [eqV]⟩
      rw [this] at hb; cases hb
theorem ed_same {σ : L2.St} {H : Hp} {ta tb : TE} {x : PyData} {E : XK} (h1 : EvD ta σ H x) (h2 : EvD tb σ H x) (ok : OkS 4 x) : EvD (tCall (sp_same 4) [] E (tCons ta (tCons tb tNil))) σ H (.bool true) := ed_callQ (ea1 h1 (ea1 h2 ea0)) ⟨x, rfl, ok, rfl⟩
theorem s_or2 {σ : L2.St} {H : Hp} {tA tB : TT} {tu : TS} {D : Ends} (h : EvT tA σ H false) (h2 : ∀ H1, Ex H H1 → tB σ H1 fun b H2 => if b = true then tu D σ H2 else D.nx σ H2) : tIfS (tOr tA tB) tu tNext D σ H := h H (Ex.refl H) _ fun H1 e => h2 H1 e
theorem notB {σ : L2.St} {H : Hp} {te : TE} {Q : Bool → Hp → Prop} (k : te σ H fun x H1 => ∃ c, x = .bl c ∧ Q (!c) H1) : tNot (tB te) σ H Q := k
theorem ok_law {fL : Addr} {fdL : FuncData} (FL : Fun K "law" "law" st_law fL fdL) (T : Txt K mg)
    (C__law_tape : Cal P w K mg base CX0 1 "_law_tape" ["script"] (sp_tape K)) (C__law_draw : Cal P w K mg base CX0 1 "_law_draw" ["tape", "many"] sp_draw) (C__law_pick : Cal P w K mg base CX0 2 "_law_pick" ["tape", "row"] sp_pick)
    (C__law_table : Cal P w K mg base CX0 3 "_law_table" ["tape"] sp_law_table) (C__law_operation : Cal P w K mg base CX0 3 "_law_operation" ["tape", "roots", "registers"] sp_law_op) (C__law_allows : Cal P w K mg base CX0 2 "_law_allows" ["table", "roots", "registers", "operation"] sp_law_allows)
    (C_keeping : Cal P w K mg base (L2.CX P w) 6 "keeping" ["table", "roots", "registers", "program"] (sp_kf CK Kept)) (C_kind_fault : Cal P w K mg base (L2.CX P w) 6 "kind_fault" ["table", "roots", "registers", "program"] (sp_kf CK Fault))
    (C__law_same : Cal P w K mg base CX0 5 "_law_same" ["one", "other"] (sp_same 4)) (C__law_refused : Cal P w K mg base CX0 7 "_law_refused" ["tape", "table", "roots", "registers"] sp_refused) : FnOk P w K mg base CX0 8 fL fdL ["script"] (sp_law K) := by
  have sc := sc_law
  refine FL.ok (k := 7) sc (fun vs H Q E h => by obtain ⟨_, _, rfl, _⟩ := h; rfl) (fun cdv A outer s H vs Q E hr h => ⟨_, (pss_cons (ps_set (i := 1) sc.nd rfl (by first | exact Or.inl rfl | exact Or.inr rfl) (pe_cal C__law_tape (hr.mono (by first | decide | omega)) rfl pass0 (pa_cons (pv 0) pa_nil)))
  (pss_cons (ps_for PassesOwn.never rfl (pi_range1 (by rfl) T.n_range (pa_cons pe_int pa_nil)) (pg_name (i := 2) sc.nd rfl (by first | exact Or.inl rfl | exact Or.inr rfl)) (pss_cons (ps_set (i := 3) sc.nd rfl (by first | exact Or.inl rfl | exact Or.inr rfl) (pe_cal C__law_table (hr.mono (by first | decide | omega)) rfl pass0 (pa_cons (pv 1) pa_nil)))
  (pss_cons (ps_set (i := 4) sc.nd rfl (by first | exact Or.inl rfl | exact Or.inr rfl) (pe_lc (own := [("row", 10)]) rfl sc.nd (k_pi_tup (K := K) rfl (pv 3)) (blkOk_by (by first | decide +kernel | kernel_rfl)) (fun _ _ _ _ _ => (pg_name (i := 10) sc.nd rfl (by first | exact Or.inl rfl | exact Or.inr rfl))) (fun _ _ _ _ _ => pts_nil) (fun _ _ _ _ _ => (pe_ix (k_ix_tup (K := K) rfl) (pv 10) pe_int (fun _ _ => rfl)))))
  (pss_cons (ps_set (i := 5) sc.nd rfl (by first | exact Or.inl rfl | exact Or.inr rfl) (pe_callTy (k_tuple_of (K := K) rfl) (by rfl) T.n_tuple (by decide +kernel) (pa_cons (pe_lc (own := [("k", 11)]) rfl sc.nd (pi_range1 (by rfl) T.n_range (pa_cons (pe_cal C__law_draw (hr.mono (by first | decide | omega)) rfl pass0 (pa_cons (pv 1) (pa_cons pe_int pa_nil))) pa_nil)) (blkOk_by (by first | decide +kernel | kernel_rfl)) (fun _ _ _ _ _ => (pg_name (i := 11) sc.nd rfl (by first | exact Or.inl rfl | exact Or.inr rfl))) (fun _ _ _ _ _ => pts_nil) (fun _ _ _ _ _ => (pe_cal C__law_pick (hr.mono (by first | decide | omega)) rfl pass0 (pa_cons (pv 1) (pa_cons (pv 4) pa_nil))))) pa_nil)))
  (pss_cons (ps_set (i := 6) sc.nd rfl (by first | exact Or.inl rfl | exact Or.inr rfl) (pe_callTy (k_tuple_of (K := K) rfl) (by rfl) T.n_tuple (by decide +kernel) (pa_cons (pe_lc (own := [("k", 11)]) rfl sc.nd (pi_range1 (by rfl) T.n_range (pa_cons (pe_op op_add pe_int (pe_cal C__law_draw (hr.mono (by first | decide | omega)) rfl pass0 (pa_cons (pv 1) (pa_cons pe_int pa_nil)))) pa_nil)) (blkOk_by (by first | decide +kernel | kernel_rfl)) (fun _ _ _ _ _ => (pg_name (i := 11) sc.nd rfl (by first | exact Or.inl rfl | exact Or.inr rfl))) (fun _ _ _ _ _ => pts_nil) (fun _ _ _ _ _ => (pe_cal C__law_pick (hr.mono (by first | decide | omega)) rfl pass0 (pa_cons (pv 1) (pa_cons (pv 4) pa_nil))))) pa_nil)))
  (pss_cons (ps_set (i := 7) sc.nd rfl (by first | exact Or.inl rfl | exact Or.inr rfl) (pe_callTy (k_tuple_of (K := K) rfl) (by rfl) T.n_tuple (by decide +kernel) (pa_cons (pe_lc (own := [("k", 11)]) rfl sc.nd (pi_range1 (by rfl) T.n_range (pa_cons (pe_cal C__law_draw (hr.mono (by first | decide | omega)) rfl pass0 (pa_cons (pv 1) (pa_cons pe_int pa_nil))) pa_nil)) (blkOk_by (by first | decide +kernel | kernel_rfl)) (fun _ _ _ _ _ => (pg_name (i := 11) sc.nd rfl (by first | exact Or.inl rfl | exact Or.inr rfl))) (fun _ _ _ _ _ => pts_nil) (fun _ _ _ _ _ => (pe_cal C__law_operation (hr.mono (by first | decide | omega)) rfl pass0 (pa_cons (pv 1) (pa_cons (pe_callB (k_len_seq (K := K) rfl) (by rfl) T.n_len PySem.boot_len (pa_cons (pv 5) pa_nil)) (pa_cons (pe_callB (k_len_seq (K := K) rfl) (by rfl) T.n_len PySem.boot_len (pa_cons (pv 6) pa_nil)) pa_nil)))))) pa_nil)))
  (pss_cons (ps_set (i := 8) sc.nd rfl (by first | exact Or.inl rfl | exact Or.inr rfl) (pe_lc (own := [("operation", 12)]) rfl sc.nd (k_pi_tup (K := K) rfl (pv 7)) (blkOk_by (by first | decide +kernel | kernel_rfl)) (fun _ _ _ _ _ => (pg_name (i := 12) sc.nd rfl (by first | exact Or.inl rfl | exact Or.inr rfl))) (fun _ _ _ _ _ => pts_nil) (fun _ _ _ _ _ => (pe_cal C__law_allows (hr.mono (by first | decide | omega)) rfl pass0 (pa_cons (pv 3) (pa_cons (pv 5) (pa_cons (pv 6) (pa_cons (pv 12) pa_nil))))))))
  (pss_cons (ps_set (i := 9) sc.nd rfl (by first | exact Or.inl rfl | exact Or.inr rfl) (pe_callTy (k_tuple_of (K := K) rfl) (by rfl) T.n_tuple (by decide +kernel) (pa_cons (pe_lc (own := [("k", 11)]) rfl sc.nd (pi_range1 (by rfl) T.n_range (pa_cons (pe_callB (k_len_seq (K := K) rfl) (by rfl) T.n_len PySem.boot_len (pa_cons (pv 7) pa_nil)) pa_nil)) (blkOk_by (by first | decide +kernel | kernel_rfl)) (fun _ _ _ _ _ => (pg_name (i := 11) sc.nd rfl (by first | exact Or.inl rfl | exact Or.inr rfl))) (fun _ _ _ _ _ => (pts_one (pt_val (pe_ix (k_ix_list (K := K) rfl) (pv 8) (pv 11) (fun _ _ => rfl))))) (fun _ _ _ _ _ => (pe_ix (k_ix_tup (K := K) rfl) (pv 7) (pv 11) (fun _ _ => rfl)))) pa_nil)))
  (pss_cons (ps_if (pt_not (pt_val (pe_cal C__law_same (hr.mono (by first | decide | omega)) rfl pass0 (pa_cons (pe_cal C_keeping (hr.mono (by first | decide | omega)) rfl passL (pa_cons (pv 3) (pa_cons (pv 5) (pa_cons (pv 6) (pa_cons (pv 7) pa_nil))))) (pa_cons (pv 9) pa_nil))))) (pss_one (ps_ret pe_bl)) pss_nil)
  (pss_cons (ps_if (pt_not (pt_val (pe_cal C__law_same (hr.mono (by first | decide | omega)) rfl pass0 (pa_cons (pe_cal C_kind_fault (hr.mono (by first | decide | omega)) rfl passL (pa_cons (pv 3) (pa_cons (pv 5) (pa_cons (pv 6) (pa_cons (pv 7) pa_nil))))) (pa_cons (pe_ifExp (pt_cmpR (k_in_seq (K := K) rfl) pe_bl (pv 8) (by rfl)) (pe_bm PySem.F.plainAttrs_list PySem.F.slot_list_index PySem.F.type_list_index mt_index (pv 8) (pa_cons pe_bl pa_nil)) pe_non) pa_nil))))) (pss_one (ps_ret pe_bl)) pss_nil)
  (pss_one (ps_if (PW.pt (pw_or (pt_cmpR op_notN (pe_cal C_kind_fault (hr.mono (by first | decide | omega)) rfl passL (pa_cons (pv 3) (pa_cons (pv 5) (pa_cons (pv 6) (pa_cons (pv 9) pa_nil))))) pe_non (nomark _)) (pw_or1 (pt_not (pt_val (pe_cal C__law_refused (hr.mono (by first | decide | omega)) rfl pass0 (pa_cons (pv 1) (pa_cons (pv 3) (pa_cons (pv 5) (pa_cons (pv 6) pa_nil)))))))))) (pss_one (ps_ret pe_bl)) pss_nil))))))))))))
  (pss_one (ps_ret pe_bl)))), ?_⟩)
  obtain ⟨a, ns, rfl, hs, hl, kk⟩ := h
  show tSeq _ _ _ [some (.ref a), none, none, none, none, none, none, none, none, none, none, none, none] H
  refine q_asgRun (call_run (ea_cons (ev_var rfl) ea_nil) fun H1 e1 => ⟨a, ns, rfl, ex_l e1 hs, hl, fun t c H2 e2 T2 => ?_⟩)
  show tSeq (tFor _ _ _) _ _ [some (.ref a), some (.ref t), none, none, none, none, none, none, none, none, none, none, none] H2
  refine q_forM [t, c] (wm_range (n := 3) (ea1 (ed_i _) ea0) (by omega)) (fun i σ' H' => (∃ s2 s3 s4 s5 s6 s7 s8 s9, σ' = [some (.ref a), some (.ref t), s2, s3, s4, s5, s6, s7, s8, s9, none, none, none]) ∧ Go t c H2 H')
    (fun H3 e3 => ⟨⟨none, none, none, none, none, none, none, none, rfl⟩, Go.of T2 e3⟩) (fun i σ' H3 H4 q e => ⟨q.1, q.2.ex e⟩) ?_ ?_
  · rintro i d y σ' H3 H4 hd e34 iy ⟨⟨s2, s3, s4, s5, s6, s7, s8, s9, rfl⟩, G4⟩
    have T4 := G4.2
    refine gN ?_
    show tSeq (tAsg _ _) _ _ [some (.ref a), some (.ref t), some y, s3, s4, s5, s6, s7, s8, s9, none, none, none] H4
    refine q_asgRun (call_run (ea_cons (ev_var rfl) ea_nil) fun H5 e5 => ⟨t, c, rfl, T4.ex e5, fun tb v H6 lt g6 im6 => ?_⟩)
    have G6 : Go t c H4 H6 := (Go.of T4 e5).trans g6
    have hlen := lt.len
    have hst : still (eT tb) = true := still_rows tb
    show tSeq (tAsg _ _) _ _ [some (.ref a), some (.ref t), some y, some v, s4, s5, s6, s7, s8, s9, none, none, none] H6
    refine q_asgN (ds := (namesOf tb).map .str) (EvN.is (en_lcM (l := tb) (emb := eRow) (fun r => .str r.1) (wk_tup (ed_var rfl im6)) (by omega) (fun r hr z H7 e7 iz => ed_ixT (ed_var rfl iz) (ed_i 0) rfl) (fun _ _ => rfl)) (by unfold namesOf; rw [List.map_map]; rfl)) ?_
    intro N xs7 H7 nN e67 g7 g7'
    have exs := g7'.strs
    subst exs
    have G7 := G6.ex e67
    have nNin := G6.2.notin nN
    have nsl : (namesOf tb).length = tb.length := by simp [namesOf]
    have nsne : namesOf tb ≠ [] := fun z => by rw [z] at nsl; simp at nsl; omega
    show tSeq (tAsg _ _) _ _ [some (.ref a), some (.ref t), some y, some v, some (.ref N), s5, s6, s7, s8, s9, none, none, none] H7
    refine q_asgRun (picks (lo := 0) (t := t) (c := c) (N := N) (ns := namesOf tb) G7.2 (fun Q q => consA (drawn (it := 1) (m := 3) rfl G7.2 (ed_i _) (by omega) (by omega) fun r hr H8 g8 => nilA (q r H8 (Nat.zero_le _) (by omega) g8))) (fun _ => rfl) (fun _ => rfl) (fun _ => rfl) nNin g7 nsne (by omega) fun rs vr H8 _ hrl hrs g8 ivr => ?_)
    have G8 := G7.trans g8
    show tSeq (tAsg _ _) _ _ [some (.ref a), some (.ref t), some y, some v, some (.ref N), some vr, s6, s7, s8, s9, none, none, none] H8
    refine q_asgRun (picks (lo := 1) (t := t) (c := c) (N := N) (ns := namesOf tb) G8.2 (fun Q q => consA (one_more1 (m := 3) rfl G8.2 (by omega) (by omega) fun r hr H9 g9 => nilA (q (1 + r) H9 (by omega : 1 ≤ 1 + r) (by omega) g9))) (fun _ => rfl) (fun _ => rfl) (fun _ => rfl) nNin (g8.at nNin g7) nsne (by omega) fun gs vg H9 hg1 hgl hgs g9 ivg => ?_)
    have G9 := G8.trans g9
    have T9 := G9.2
    obtain ⟨x, hx⟩ : ∃ x : TS3, x = (tb, rs, gs) := ⟨_, rfl⟩
    have x1 : x.1 = tb := by rw [hx]
    have x2 : x.2.1 = rs := by rw [hx]
    have x3 : x.2.2 = gs := by rw [hx]
    have xin : ∀ n ∈ x.2.1 ++ x.2.2, n ∈ namesOf x.1 := fun n hn => by
      rw [x2, x3] at hn
      rw [x1]
      rcases List.mem_append.mp hn with hn | hn
      · exact hrs n hn
      · exact hgs n hn
    have ltx : LT x.1 := by rw [x1]; exact lt
    have gd : Gd x := lt_gd ltx xin
    have one := lt_one ltx
    have RO : ∀ q, q < x.2.2.length → PyData.strOk (reg x q) = true := fun q hq => by
      have h1 := xin _ (List.mem_append_right _ (List.mem_of_getElem? (reg_at hq)))
      obtain ⟨r, hr, e⟩ := List.mem_map.mp h1
      rw [← e]
      exact (n3_ok _ (ltx.n3 hr)).2.2
    have gk : GoodK x (eT x.1) (eS x.2.1) (eS x.2.2) := ⟨rfl, rfl, rfl, ltx.gt, ltx.isT, gd, by rw [x2, x3]; omega⟩
    have s2t : still (eS rs) = true := still_eS _
    have s3t : still (eS gs) = true := still_eS _
    have im9 : Im H9 v (eT x.1) := by rw [x1]; exact ((G9.1.2 |> fun _ => (g8.trans g9).im hst (im6.mono e67)))
    have ir9 : Im H9 vr (eS x.2.1) := by rw [x2]; exact g9.im s2t ivr
    have ig9 : Im H9 vg (eS x.2.2) := by rw [x3]; exact ivg
    have sx1 : still (eT x.1) = true := still_rows _
    show tSeq (tAsg _ _) _ _ [some (.ref a), some (.ref t), some y, some v, some (.ref N), some vr, some vg, s7, s8, s9, none, none, none] H9
    refine q_asgRun (cbA (consA (lc_drawn (tp := t) (c := c) (C := fun src H2 => ∃ n, n ≤ 12 ∧ src = (List.range n).map (fun i => PyData.int (i : Nat)) ∧ Go t c H9 H2) (PD := fun d => ∃ op, OpOk x.2.1.length x.2.2.length op ∧ d = eOp op) T9
      (run_range fun Q q => consA (drawn (it := 1) (m := 12) rfl T9 (ed_i _) (by omega) (by omega) fun r hr HA gA => nilA (q r HA (by omega) ⟨r, by omega, rfl, gA⟩))) (fun src HA h => ?_) (fun d h => by obtain ⟨op, _, rfl⟩ := h; exact still_op op) ?_ (fun _ => rfl) ?_)))
    · obtain ⟨n, hn, rfl, g⟩ := h
      exact ⟨by rw [List.length_map, List.length_range]; omega, g⟩
    · intro src i' d' x' H2' HA hc hd' g im Q q
      have ivr' : Im HA vr (eS x.2.1) := g.im (still_eS _) ir9
      have ivg' : Im HA vg (eS x.2.2) := g.im (still_eS _) ig9
      refine call_run (vs := [.ref t, .int (x.2.1.length : Nat), .int (x.2.2.length : Nat)]) (ea_cons (ev_var rfl) (ea_cons (EvD.evI (EvD.is (ed_lenT (ed_var rfl ivr')) (by rw [List.length_map]))) (ea_cons (EvD.evI (EvD.is (ed_lenT (ed_var rfl ivg')) (by rw [List.length_map]))) ea_nil))) fun HB eB => ⟨t, c, _, _, rfl, g.2.ex eB, by rw [x2]; omega, by rw [x3]; omega, by rw [x3]; omega, fun op ho v' HC gC imC => q v' (eOp op) HC ((Go.of g.2 eB).trans gC) ⟨op, ho, rfl⟩ imC⟩
    · intro p xs ds src H2' HA hc gA hp hd hlen' aA bA
      obtain ⟨n, hn, rfl, _⟩ := hc
      obtain ⟨ops, rfl, hops⟩ := ops_of hd
      rw [List.length_map, List.length_map, List.length_range] at hlen'
      have ol : ops.length ≤ 12 := by omega
      refine nilA ⟨p, xs, rfl, .inl ⟨SqL.of aA, fun l hl => ?_⟩⟩
      obtain ⟨HB, hHB⟩ : ∃ HB, HB = upd HA l (.tup xs) := ⟨_, rfl⟩
      have ivp : Im HB (.ref l) (.tuple (ops.map eOp)) := by rw [hHB]; exact .tup upd_same (bA.mono (Ex.new hl))
      have GB : Go t c H9 HB := by rw [hHB]; exact gA.ex (Ex.new hl)
      rw [← hHB]
      have imB := GB.im sx1 im9
      have irB := GB.im (still_eS _) ir9
      have igB := GB.im (still_eS _) ig9
      have args : ∀ {σ : L2.St} {HC : Hp} {p : V} {os : List Op} {i : Nat}, σ[3]? = some (some v) → σ[5]? = some (some vr) → σ[6]? = some (some vg) → σ[i]? = some (some p) → Ex HB HC → Im HC p (.tuple (os.map eOp)) → EvDs (tCons (tVar 3) (tCons (tVar 5) (tCons (tVar 6) (tCons (tVar i) tNil)))) σ HC [eT x.1, eS x.2.1, eS x.2.2, .tuple (os.map eOp)] := fun h1 h2 h3 h4 e im => ea1 (ed_var h1 (imB.mono e)) (ea1 (ed_var h2 (irB.mono e)) (ea1 (ed_var h3 (igB.mono e)) (ea1 (ed_var h4 im) ea0)))
      show tSeq (tAsg _ _) _ _ [some (.ref a), some (.ref t), some y, some v, some (.ref N), some vr, some vg, some (.ref l), s8, s9, none, none, none] HB
      refine q_asgN (ds := ops.map fun op => .bool (toldAllows x op)) (en_lcM (l := ops) (emb := eOp) (fun op => .bool (toldAllows x op)) (wk_tup (ed_var rfl ivp)) (by omega) (fun op ho z HC eC iz => ed_callQ (ea1 (ed_var rfl (imB.mono eC)) (ea1 (ed_var rfl (irB.mono eC)) (ea1 (ed_var rfl (igB.mono eC)) (ea1 (ed_var rfl iz) ea0)))) ⟨x, op, rfl, gd, one, RO, hops op ho, rfl⟩) (fun _ _ => rfl)) ?_
      intro gp gxs HC ngp eBC gpa gpx
      have igood : Im HC (.ref gp) (.list (ops.map fun op => .bool (toldAllows x op))) := .lst gpa gpx
      have ivpC := ivp.mono eBC
      show tSeq (tAsg _ _) _ _ [some (.ref a), some (.ref t), some y, some v, some (.ref N), some vr, some vg, some (.ref l), some (.ref gp), s9, none, none, none] HC
      have getOp : ∀ i ∈ List.range ops.length, ops[i]? = some (ops.getD i default) := fun i hi => by
        have := List.mem_range.mp hi
        rw [List.getD_eq_getElem?_getD, List.getElem?_eq_getElem this]; rfl
      refine q_asgD (d := .tuple ((ops.filter (toldAllows x)).map eOp)) (EvD.is (ed_tupOf (en_lc (l := List.range ops.length) (emb := fun i => .int (i : Nat)) (fun i => eOp (ops.getD i default)) (fun i => toldAllows x (ops.getD i default)) (wm_range (n := ops.length) (ea1 (EvD.is (ed_lenT (ed_var rfl ivpC)) (by rw [List.length_map])) ea0) (by omega)).wk (by rw [List.length_range]; omega)
        (fun i hi z HD eD iz => ⟨et_DB (ed_ixL (ed_var rfl (igood.mono eD)) (ed_var rfl iz) (atI_nat (by rw [List.getElem?_map, getOp i hi]; rfl))), fun _ => ed_ixT (ed_var rfl (ivpC.mono eD)) (ed_var rfl iz) (atI_nat (by rw [List.getElem?_map, getOp i hi]; rfl))⟩) (fun i hi _ => still_op _)).toD) (by rw [← range_filter (toldAllows x) ops, List.map_map]; rfl)) ?_
      intro dv HD eCD idv
      have eBD := eBC.trans eCD
      show tSeq (tIfS _ _ _) _ _ [some (.ref a), some (.ref t), some y, some v, some (.ref N), some vr, some vg, some (.ref l), some (.ref gp), some dv, none, none, none] HD
      have fl : (ops.filter (toldAllows x)).length ≤ 12 := Nat.le_trans (List.length_filter_le _ _) ol
      refine q_when (b := false) (et_is (et_not (et_DB (ed_same (ed_kf (args rfl rfl rfl rfl eBD (ivp.mono eBD)) gk hops (by omega) (fun d h => h)) (ed_var rfl idv) (oks_ops (by omega))))) rfl) (fun z => by cases z) ?_
      intro _ HE eDE
      have eBE := eBD.trans eDE
      refine q_when (b := false) (et_is (et_not (et_DB (ed_same (ed_kf (args rfl rfl rfl rfl eBE (ivp.mono eBE)) gk hops (by omega) (fun d h => fault_is h)) (ed_firstNo (x := x) (ops := ops) fun HF eF => ed_var rfl (igood.mono ((eCD.trans eDE).trans eF))) (oks_dF x ops)))) rfl) (fun z => by cases z) ?_
      intro _ HF eEF
      have eBF := eBE.trans eEF
      have idvF := (idv.mono eDE).mono eEF
      refine s_or2 (et_D (EvD.is (ed_notN (d := .none) (ed_kf (ops := ops.filter (toldAllows x)) (args rfl rfl rfl rfl eBF idvF) gk (fun op ho => hops op (List.mem_filter.mp ho).1) (by omega) (fun d h => by rw [fault_is h, dF_kept]))) rfl)) fun HG eFG => ?_
      have eBG := eBF.trans eFG
      have GG : Go t c H4 HG := ((G9.trans GB).ex eBG)
      refine notB (call_run (vs := [.ref t, v, vr, vg]) (ea_cons (ev_var rfl) (ea_cons (ev_var rfl) (ea_cons (ev_var rfl) (ea_cons (ev_var rfl) ea_nil)))) fun HH eGH => ⟨t, c, v, vr, vg, x, rfl, GG.2.ex eGH, imB.mono (eBG.trans eGH), irB.mono (eBG.trans eGH), igB.mono (eBG.trans eGH), ltx, gd, by rw [x2, x3]; omega, fun HI gI => ⟨true, rfl, ?_⟩⟩)
      have GI : Go t c H4 HI := (GG.ex eGH).trans gI
      show (_ ∧ _) ∧ _
      exact ⟨⟨⟨_, _, _, _, _, _, _, _, rfl⟩, G4.trans GI⟩, (ExM.of e34).trans GI.1⟩
  · rintro σ' H' ⟨⟨s2, s3, s4, s5, s6, s7, s8, s9, rfl⟩, G4⟩
    refine s_retD (ed_b true) fun v H5 e5 iv => ?_
    have ev := iv.b
    subst ev
    exact kk H5
end
end K35
set_option Elab.async false
set_option linter.all false
set_option maxRecDepth 100000
set_option maxHeartbeats 8000000
namespace K35
open PySem PySem.Spec PyProof.Rows L2 Evl Pd
section
variable {P : Program} {w : World} {K : PySem.W.Frag} {mg : Str → Option Value} {base : Heap} {C CK : Addr}
theorem all_mk {l : PySem.W.OpenLaw} {h : Heap} {fa : Addr} (X : K.In h) (G : h.Ns mainGlobals mg) (hfa : mg "law" = some (.ref fa))
    (gC : PySem.W.nsIn K mainGlobals "Told" = some (some (.ref C))) (gK : PySem.W.nsIn K mainGlobals "BadKinds" = some (some (.ref CK)))
    (xK : PySem.W.excIn K CK [.type "ValueError", .type "Exception", .type "BaseException", .type "object"] "ValueError.__new__" = true) (kK : PySem.W.keepIn K (.ref CK) = true) (eK : PySem.W.subIn K (.ref CK) (.type "BaseException") = some true) (tK : PySem.W.typeIn K (.ref CK) = some (.type "type")) (isK : PySem.W.isClsIn K CK = true) (sfK : PySem.W.subIn K (.ref CK) (.ref CK) = some true)
    (pgC : PySem.W.plainGet K C Str.empty = true) (hdC : PySem.W.hasDictIn K C = true) (poC : PySem.W.plainOver K C = true) (saC : PySem.W.findIn K (.ref C) "__setattr__" = some (some (.builtin "object.__setattr__"))) (mkC : PySem.W.makesIn K C = true) (kpC : PySem.W.keepIn K (.ref C) = true)
    (nT : PySem.W.findIn K (.ref C) "table" = some none) (nR : PySem.W.findIn K (.ref C) "roots" = some none) (nG : PySem.W.findIn K (.ref C) "registers" = some none)
    {fM0 : Addr} {odM0 anM0 : Option Addr} {slM0 : Array (Option Value)} {ocM0 kVM0 dcM0 pmM0 cdM0 ctM0 : Value}
    (aM0 : PySem.W.findIn K (.ref C) "__init__" = some (some (.ref fM0))) (lM0 : K.lookup fM0 = some ⟨ocM0, odM0, .func (PySem.W.fnOf "__init__" "Told.__init__" (defArgs st_Told_init) (defBody st_Told_init) (defScope st_Told_init) .none kVM0 dcM0 pmM0 anM0 cdM0 ctM0), slM0⟩) (cM0 : PySem.W.codeIn K cdM0 "Told.__init__" = true) (kM0 : PySem.W.keepIn K (.ref fM0) = true)
    (iM0 : PySem.W.isFn K (.ref fM0) = true)
    {fM1 : Addr} {odM1 anM1 : Option Addr} {slM1 : Array (Option Value)} {ocM1 kVM1 dcM1 pmM1 cdM1 ctM1 : Value}
    (aM1 : PySem.W.findIn K (.ref C) "entry" = some (some (.ref fM1))) (lM1 : K.lookup fM1 = some ⟨ocM1, odM1, .func (PySem.W.fnOf "entry" "Told.entry" (defArgs st_Told_entry) (defBody st_Told_entry) (defScope st_Told_entry) .none kVM1 dcM1 pmM1 anM1 cdM1 ctM1), slM1⟩) (cM1 : PySem.W.codeIn K cdM1 "Told.entry" = true) (kM1 : PySem.W.keepIn K (.ref fM1) = true)
    (iM1 : PySem.W.isFn K (.ref fM1) = true)
    {fM2 : Addr} {odM2 anM2 : Option Addr} {slM2 : Array (Option Value)} {ocM2 kVM2 dcM2 pmM2 cdM2 ctM2 : Value}
    (aM2 : PySem.W.findIn K (.ref C) "may_put" = some (some (.ref fM2))) (lM2 : K.lookup fM2 = some ⟨ocM2, odM2, .func (PySem.W.fnOf "may_put" "Told.may_put" (defArgs st_Told_may_put) (defBody st_Told_may_put) (defScope st_Told_may_put) .none kVM2 dcM2 pmM2 anM2 cdM2 ctM2), slM2⟩) (cM2 : PySem.W.codeIn K cdM2 "Told.may_put" = true) (kM2 : PySem.W.keepIn K (.ref fM2) = true)
    (iM2 : PySem.W.isFn K (.ref fM2) = true)
    {fM3 : Addr} {odM3 anM3 : Option Addr} {slM3 : Array (Option Value)} {ocM3 kVM3 dcM3 pmM3 cdM3 ctM3 : Value}
    (aM3 : PySem.W.findIn K (.ref C) "may_set" = some (some (.ref fM3))) (lM3 : K.lookup fM3 = some ⟨ocM3, odM3, .func (PySem.W.fnOf "may_set" "Told.may_set" (defArgs st_Told_may_set) (defBody st_Told_may_set) (defScope st_Told_may_set) .none kVM3 dcM3 pmM3 anM3 cdM3 ctM3), slM3⟩) (cM3 : PySem.W.codeIn K cdM3 "Told.may_set" = true) (kM3 : PySem.W.keepIn K (.ref fM3) = true)
    (iM3 : PySem.W.isFn K (.ref fM3) = true)
    {fM4 : Addr} {odM4 anM4 : Option Addr} {slM4 : Array (Option Value)} {ocM4 kVM4 dcM4 pmM4 cdM4 ctM4 : Value}
    (aM4 : PySem.W.findIn K (.ref C) "may_load" = some (some (.ref fM4))) (lM4 : K.lookup fM4 = some ⟨ocM4, odM4, .func (PySem.W.fnOf "may_load" "Told.may_load" (defArgs st_Told_may_load) (defBody st_Told_may_load) (defScope st_Told_may_load) .none kVM4 dcM4 pmM4 anM4 cdM4 ctM4), slM4⟩) (cM4 : PySem.W.codeIn K cdM4 "Told.may_load" = true) (kM4 : PySem.W.keepIn K (.ref fM4) = true)
    (iM4 : PySem.W.isFn K (.ref fM4) = true)
    {fM5 : Addr} {odM5 anM5 : Option Addr} {slM5 : Array (Option Value)} {ocM5 kVM5 dcM5 pmM5 cdM5 ctM5 : Value}
    (aM5 : PySem.W.findIn K (.ref C) "may_store" = some (some (.ref fM5))) (lM5 : K.lookup fM5 = some ⟨ocM5, odM5, .func (PySem.W.fnOf "may_store" "Told.may_store" (defArgs st_Told_may_store) (defBody st_Told_may_store) (defScope st_Told_may_store) .none kVM5 dcM5 pmM5 anM5 cdM5 ctM5), slM5⟩) (cM5 : PySem.W.codeIn K cdM5 "Told.may_store" = true) (kM5 : PySem.W.keepIn K (.ref fM5) = true)
    (iM5 : PySem.W.isFn K (.ref fM5) = true)
    {fM6 : Addr} {odM6 anM6 : Option Addr} {slM6 : Array (Option Value)} {ocM6 kVM6 dcM6 pmM6 cdM6 ctM6 : Value}
    (aM6 : PySem.W.findIn K (.ref C) "allows" = some (some (.ref fM6))) (lM6 : K.lookup fM6 = some ⟨ocM6, odM6, .func (PySem.W.fnOf "allows" "Told.allows" (defArgs st_Told_allows) (defBody st_Told_allows) (defScope st_Told_allows) .none kVM6 dcM6 pmM6 anM6 cdM6 ctM6), slM6⟩) (cM6 : PySem.W.codeIn K cdM6 "Told.allows" = true) (kM6 : PySem.W.keepIn K (.ref fM6) = true)
    (iM6 : PySem.W.isFn K (.ref fM6) = true)
    {f1 : Addr} {od1 an1 : Option Addr} {sl1 : Array (Option Value)} {oc1 kV1 dc1 pm1 cd1 ct1 : Value}
    (a1 : PySem.W.nsIn K mainGlobals "is_name" = some (some (.ref f1))) (l1 : K.lookup f1 = some ⟨oc1, od1, .func (PySem.W.fnOf "is_name" "is_name" (defArgs st_is_name) (defBody st_is_name) (defScope st_is_name) .none kV1 dc1 pm1 an1 cd1 ct1), sl1⟩) (c1 : PySem.W.codeIn K cd1 "is_name" = true) (k1 : PySem.W.keepIn K (.ref f1) = true)
    {f2 : Addr} {od2 an2 : Option Addr} {sl2 : Array (Option Value)} {oc2 kV2 dc2 pm2 cd2 ct2 : Value}
    (a2 : PySem.W.nsIn K mainGlobals "is_entry" = some (some (.ref f2))) (l2 : K.lookup f2 = some ⟨oc2, od2, .func (PySem.W.fnOf "is_entry" "is_entry" (defArgs st_is_entry) (defBody st_is_entry) (defScope st_is_entry) .none kV2 dc2 pm2 an2 cd2 ct2), sl2⟩) (c2 : PySem.W.codeIn K cd2 "is_entry" = true) (k2 : PySem.W.keepIn K (.ref f2) = true)
    {f3 : Addr} {od3 an3 : Option Addr} {sl3 : Array (Option Value)} {oc3 kV3 dc3 pm3 cd3 ct3 : Value}
    (a3 : PySem.W.nsIn K mainGlobals "is_table" = some (some (.ref f3))) (l3 : K.lookup f3 = some ⟨oc3, od3, .func (PySem.W.fnOf "is_table" "is_table" (defArgs st_is_table) (defBody st_is_table) (defScope st_is_table) .none kV3 dc3 pm3 an3 cd3 ct3), sl3⟩) (c3 : PySem.W.codeIn K cd3 "is_table" = true) (k3 : PySem.W.keepIn K (.ref f3) = true)
    {f4 : Addr} {od4 an4 : Option Addr} {sl4 : Array (Option Value)} {oc4 kV4 dc4 pm4 cd4 ct4 : Value}
    (a4 : PySem.W.nsIn K mainGlobals "check_table" = some (some (.ref f4))) (l4 : K.lookup f4 = some ⟨oc4, od4, .func (PySem.W.fnOf "check_table" "check_table" (defArgs st_check_table) (defBody st_check_table) (defScope st_check_table) .none kV4 dc4 pm4 an4 cd4 ct4), sl4⟩) (c4 : PySem.W.codeIn K cd4 "check_table" = true) (k4 : PySem.W.keepIn K (.ref f4) = true)
    {f5 : Addr} {od5 an5 : Option Addr} {sl5 : Array (Option Value)} {oc5 kV5 dc5 pm5 cd5 ct5 : Value}
    (a5 : PySem.W.nsIn K mainGlobals "cells_in" = some (some (.ref f5))) (l5 : K.lookup f5 = some ⟨oc5, od5, .func (PySem.W.fnOf "cells_in" "cells_in" (defArgs st_cells_in) (defBody st_cells_in) (defScope st_cells_in) .none kV5 dc5 pm5 an5 cd5 ct5), sl5⟩) (c5 : PySem.W.codeIn K cd5 "cells_in" = true) (k5 : PySem.W.keepIn K (.ref f5) = true)
    {f6 : Addr} {od6 an6 : Option Addr} {sl6 : Array (Option Value)} {oc6 kV6 dc6 pm6 cd6 ct6 : Value}
    (a6 : PySem.W.nsIn K mainGlobals "name_in" = some (some (.ref f6))) (l6 : K.lookup f6 = some ⟨oc6, od6, .func (PySem.W.fnOf "name_in" "name_in" (defArgs st_name_in) (defBody st_name_in) (defScope st_name_in) .none kV6 dc6 pm6 an6 cd6 ct6), sl6⟩) (c6 : PySem.W.codeIn K cd6 "name_in" = true) (k6 : PySem.W.keepIn K (.ref f6) = true)
    {f7 : Addr} {od7 an7 : Option Addr} {sl7 : Array (Option Value)} {oc7 kV7 dc7 pm7 cd7 ct7 : Value}
    (a7 : PySem.W.nsIn K mainGlobals "kind_fault" = some (some (.ref f7))) (l7 : K.lookup f7 = some ⟨oc7, od7, .func (PySem.W.fnOf "kind_fault" "kind_fault" (defArgs st_kind_fault) (defBody st_kind_fault) (defScope st_kind_fault) .none kV7 dc7 pm7 an7 cd7 ct7), sl7⟩) (c7 : PySem.W.codeIn K cd7 "kind_fault" = true) (k7 : PySem.W.keepIn K (.ref f7) = true)
    {f8 : Addr} {od8 an8 : Option Addr} {sl8 : Array (Option Value)} {oc8 kV8 dc8 pm8 cd8 ct8 : Value}
    (a8 : PySem.W.nsIn K mainGlobals "keeping" = some (some (.ref f8))) (l8 : K.lookup f8 = some ⟨oc8, od8, .func (PySem.W.fnOf "keeping" "keeping" (defArgs st_keeping) (defBody st_keeping) (defScope st_keeping) .none kV8 dc8 pm8 an8 cd8 ct8), sl8⟩) (c8 : PySem.W.codeIn K cd8 "keeping" = true) (k8 : PySem.W.keepIn K (.ref f8) = true)
    {f9 : Addr} {od9 an9 : Option Addr} {sl9 : Array (Option Value)} {oc9 kV9 dc9 pm9 cd9 ct9 : Value}
    (a9 : PySem.W.nsIn K mainGlobals "_law_tape" = some (some (.ref f9))) (l9 : K.lookup f9 = some ⟨oc9, od9, .func (PySem.W.fnOf "_law_tape" "_law_tape" (defArgs st__law_tape) (defBody st__law_tape) (defScope st__law_tape) .none kV9 dc9 pm9 an9 cd9 ct9), sl9⟩) (c9 : PySem.W.codeIn K cd9 "_law_tape" = true) (k9 : PySem.W.keepIn K (.ref f9) = true)
    {f10 : Addr} {od10 an10 : Option Addr} {sl10 : Array (Option Value)} {oc10 kV10 dc10 pm10 cd10 ct10 : Value}
    (a10 : PySem.W.nsIn K mainGlobals "_law_draw" = some (some (.ref f10))) (l10 : K.lookup f10 = some ⟨oc10, od10, .func (PySem.W.fnOf "_law_draw" "_law_draw" (defArgs st__law_draw) (defBody st__law_draw) (defScope st__law_draw) .none kV10 dc10 pm10 an10 cd10 ct10), sl10⟩) (c10 : PySem.W.codeIn K cd10 "_law_draw" = true) (k10 : PySem.W.keepIn K (.ref f10) = true)
    {f11 : Addr} {od11 an11 : Option Addr} {sl11 : Array (Option Value)} {oc11 kV11 dc11 pm11 cd11 ct11 : Value}
    (a11 : PySem.W.nsIn K mainGlobals "_law_pick" = some (some (.ref f11))) (l11 : K.lookup f11 = some ⟨oc11, od11, .func (PySem.W.fnOf "_law_pick" "_law_pick" (defArgs st__law_pick) (defBody st__law_pick) (defScope st__law_pick) .none kV11 dc11 pm11 an11 cd11 ct11), sl11⟩) (c11 : PySem.W.codeIn K cd11 "_law_pick" = true) (k11 : PySem.W.keepIn K (.ref f11) = true)
    {f12 : Addr} {od12 an12 : Option Addr} {sl12 : Array (Option Value)} {oc12 kV12 dc12 pm12 cd12 ct12 : Value}
    (a12 : PySem.W.nsIn K mainGlobals "_law_table" = some (some (.ref f12))) (l12 : K.lookup f12 = some ⟨oc12, od12, .func (PySem.W.fnOf "_law_table" "_law_table" (defArgs st__law_table) (defBody st__law_table) (defScope st__law_table) .none kV12 dc12 pm12 an12 cd12 ct12), sl12⟩) (c12 : PySem.W.codeIn K cd12 "_law_table" = true) (k12 : PySem.W.keepIn K (.ref f12) = true)
    {f13 : Addr} {od13 an13 : Option Addr} {sl13 : Array (Option Value)} {oc13 kV13 dc13 pm13 cd13 ct13 : Value}
    (a13 : PySem.W.nsIn K mainGlobals "_law_entries" = some (some (.ref f13))) (l13 : K.lookup f13 = some ⟨oc13, od13, .func (PySem.W.fnOf "_law_entries" "_law_entries" (defArgs st__law_entries) (defBody st__law_entries) (defScope st__law_entries) .none kV13 dc13 pm13 an13 cd13 ct13), sl13⟩) (c13 : PySem.W.codeIn K cd13 "_law_entries" = true) (k13 : PySem.W.keepIn K (.ref f13) = true)
    {f14 : Addr} {od14 an14 : Option Addr} {sl14 : Array (Option Value)} {oc14 kV14 dc14 pm14 cd14 ct14 : Value}
    (a14 : PySem.W.nsIn K mainGlobals "_law_same" = some (some (.ref f14))) (l14 : K.lookup f14 = some ⟨oc14, od14, .func (PySem.W.fnOf "_law_same" "_law_same" (defArgs st__law_same) (defBody st__law_same) (defScope st__law_same) .none kV14 dc14 pm14 an14 cd14 ct14), sl14⟩) (c14 : PySem.W.codeIn K cd14 "_law_same" = true) (k14 : PySem.W.keepIn K (.ref f14) = true)
    {f15 : Addr} {od15 an15 : Option Addr} {sl15 : Array (Option Value)} {oc15 kV15 dc15 pm15 cd15 ct15 : Value}
    (a15 : PySem.W.nsIn K mainGlobals "_law_allows" = some (some (.ref f15))) (l15 : K.lookup f15 = some ⟨oc15, od15, .func (PySem.W.fnOf "_law_allows" "_law_allows" (defArgs st__law_allows) (defBody st__law_allows) (defScope st__law_allows) .none kV15 dc15 pm15 an15 cd15 ct15), sl15⟩) (c15 : PySem.W.codeIn K cd15 "_law_allows" = true) (k15 : PySem.W.keepIn K (.ref f15) = true)
    {f16 : Addr} {od16 an16 : Option Addr} {sl16 : Array (Option Value)} {oc16 kV16 dc16 pm16 cd16 ct16 : Value}
    (a16 : PySem.W.nsIn K mainGlobals "_law_operation" = some (some (.ref f16))) (l16 : K.lookup f16 = some ⟨oc16, od16, .func (PySem.W.fnOf "_law_operation" "_law_operation" (defArgs st__law_operation) (defBody st__law_operation) (defScope st__law_operation) .none kV16 dc16 pm16 an16 cd16 ct16), sl16⟩) (c16 : PySem.W.codeIn K cd16 "_law_operation" = true) (k16 : PySem.W.keepIn K (.ref f16) = true)
    {f17 : Addr} {od17 an17 : Option Addr} {sl17 : Array (Option Value)} {oc17 kV17 dc17 pm17 cd17 ct17 : Value}
    (a17 : PySem.W.nsIn K mainGlobals "_law_refused" = some (some (.ref f17))) (l17 : K.lookup f17 = some ⟨oc17, od17, .func (PySem.W.fnOf "_law_refused" "_law_refused" (defArgs st__law_refused) (defBody st__law_refused) (defScope st__law_refused) .none kV17 dc17 pm17 an17 cd17 ct17), sl17⟩) (c17 : PySem.W.codeIn K cd17 "_law_refused" = true) (k17 : PySem.W.keepIn K (.ref f17) = true)
    {f18 : Addr} {od18 an18 : Option Addr} {sl18 : Array (Option Value)} {oc18 kV18 dc18 pm18 cd18 ct18 : Value}
    (a18 : PySem.W.nsIn K mainGlobals "law" = some (some (.ref f18))) (l18 : K.lookup f18 = some ⟨oc18, od18, .func (PySem.W.fnOf "law" "law" (defArgs st_law) (defBody st_law) (defScope st_law) .none kV18 dc18 pm18 an18 cd18 ct18), sl18⟩) (c18 : PySem.W.codeIn K cd18 "law" = true) (k18 : PySem.W.keepIn K (.ref f18) = true)
    (z_isinstance : PySem.W.nsIn K mainGlobals "isinstance" = some none)
    (z_len : PySem.W.nsIn K mainGlobals "len" = some none)
    (z_all : PySem.W.nsIn K mainGlobals "all" = some none)
    (z_zip : PySem.W.nsIn K mainGlobals "zip" = some none)
    (z_tuple : PySem.W.nsIn K mainGlobals "tuple" = some none)
    (z_str : PySem.W.nsIn K mainGlobals "str" = some none)
    (z_enumerate : PySem.W.nsIn K mainGlobals "enumerate" = some none)
    (z_sorted : PySem.W.nsIn K mainGlobals "sorted" = some none)
    (z_int : PySem.W.nsIn K mainGlobals "int" = some none)
    (z_abs : PySem.W.nsIn K mainGlobals "abs" = some none)
    (z_list : PySem.W.nsIn K mainGlobals "list" = some none)
    (z_range : PySem.W.nsIn K mainGlobals "range" = some none)
    (z_any : PySem.W.nsIn K mainGlobals "any" = some none)
    {t_MOST_NAME : Tok} (v_MOST_NAME : PySem.W.nsIn K mainGlobals "MOST_NAME" = some (some (.int 12 t_MOST_NAME)))
    {t_LETTERS : Tok} (v_LETTERS : PySem.W.nsIn K mainGlobals "LETTERS" = some (some (.str "abcdefghijklmnopqrstuvwxyz" t_LETTERS)))
    {t_INTEGER : Tok} (v_INTEGER : PySem.W.nsIn K mainGlobals "INTEGER" = some (some (.str "integer" t_INTEGER)))
    {t_NONE : Tok} (v_NONE : PySem.W.nsIn K mainGlobals "NONE" = some (some (.str "none" t_NONE))) :
    ∃ fd : FuncData, (∀ (s : Shared) (v : Value), BindsTo s fd ⟨[v], []⟩ [("script", v)]) ∧ ∀ base : Heap, K.In base → base.Ns mainGlobals mg → FnOk l.prog w K mg base CX0 8 fa fd ["script"] (sp_law K) := by
  have e := hfa.symm.trans (PySem.W.mg_of X G a18)
  cases e
  have T : Txt K mg := { n_isinstance := PySem.W.mg_none_of X G z_isinstance, n_len := PySem.W.mg_none_of X G z_len, n_all := PySem.W.mg_none_of X G z_all, n_zip := PySem.W.mg_none_of X G z_zip, n_tuple := PySem.W.mg_none_of X G z_tuple, n_str := PySem.W.mg_none_of X G z_str, n_enumerate := PySem.W.mg_none_of X G z_enumerate, n_sorted := PySem.W.mg_none_of X G z_sorted, n_int := PySem.W.mg_none_of X G z_int, n_abs := PySem.W.mg_none_of X G z_abs, n_list := PySem.W.mg_none_of X G z_list, n_range := PySem.W.mg_none_of X G z_range, n_any := PySem.W.mg_none_of X G z_any, c_MOST_NAME := ⟨_, PySem.W.mg_of X G v_MOST_NAME, ⟨_, rfl⟩⟩, c_LETTERS := ⟨_, PySem.W.mg_of X G v_LETTERS, ⟨_, rfl⟩⟩, c_INTEGER := ⟨_, PySem.W.mg_of X G v_INTEGER, ⟨_, rfl⟩⟩, c_NONE := ⟨_, PySem.W.mg_of X G v_NONE, ⟨_, rfl⟩⟩ }
  have XK : XCls K mg "BadKinds" CK := ⟨PySem.W.mg_of X G gK, xK, kK, eK, tK, isK, sfK⟩
  have TT : TTxt K C := ⟨⟨pgC, hdC, poC, saC⟩, nT, nR, nG⟩
  have S_init : SrcC K mg "Told" C "Told.__init__" st_Told_init ["self", "table", "roots", "registers"] := ⟨fM0, _, PySem.W.mg_of X G gC, ⟨mkC, aM0, iM0, kpC⟩, fun_mk (st := st_Told_init) lM0 cM0 kM0, (fun_mk (st := st_Told_init) lM0 cM0 kM0).binds (ps := ["self", "table", "roots", "registers"]) fun _ _ _ _ _ _ us hl => match us, hl with | [_, _, _, _], _ => rfl⟩
  have S_entry : SrcM K C "entry" "Told.entry" st_Told_entry ["self", "place", "k"] := ⟨fM1, _, ⟨aM1, iM1, kM1⟩, fun_mk (st := st_Told_entry) lM1 cM1 kM1, (fun_mk (st := st_Told_entry) lM1 cM1 kM1).binds (ps := ["self", "place", "k"]) fun _ _ _ _ _ _ us hl => match us, hl with | [_, _, _], _ => rfl⟩
  have S_may_put : SrcM K C "may_put" "Told.may_put" st_Told_may_put ["self", "place", "size"] := ⟨fM2, _, ⟨aM2, iM2, kM2⟩, fun_mk (st := st_Told_may_put) lM2 cM2 kM2, (fun_mk (st := st_Told_may_put) lM2 cM2 kM2).binds (ps := ["self", "place", "size"]) fun _ _ _ _ _ _ us hl => match us, hl with | [_, _, _], _ => rfl⟩
  have S_may_set : SrcM K C "may_set" "Told.may_set" st_Told_may_set ["self", "place", "k"] := ⟨fM3, _, ⟨aM3, iM3, kM3⟩, fun_mk (st := st_Told_may_set) lM3 cM3 kM3, (fun_mk (st := st_Told_may_set) lM3 cM3 kM3).binds (ps := ["self", "place", "k"]) fun _ _ _ _ _ _ us hl => match us, hl with | [_, _, _], _ => rfl⟩
  have S_may_load : SrcM K C "may_load" "Told.may_load" st_Told_may_load ["self", "target", "place", "k"] := ⟨fM4, _, ⟨aM4, iM4, kM4⟩, fun_mk (st := st_Told_may_load) lM4 cM4 kM4, (fun_mk (st := st_Told_may_load) lM4 cM4 kM4).binds (ps := ["self", "target", "place", "k"]) fun _ _ _ _ _ _ us hl => match us, hl with | [_, _, _, _], _ => rfl⟩
  have S_may_store : SrcM K C "may_store" "Told.may_store" st_Told_may_store ["self", "place", "k", "source"] := ⟨fM5, _, ⟨aM5, iM5, kM5⟩, fun_mk (st := st_Told_may_store) lM5 cM5 kM5, (fun_mk (st := st_Told_may_store) lM5 cM5 kM5).binds (ps := ["self", "place", "k", "source"]) fun _ _ _ _ _ _ us hl => match us, hl with | [_, _, _, _], _ => rfl⟩
  have S_allows : SrcM K C "allows" "Told.allows" st_Told_allows ["self", "operation"] := ⟨fM6, _, ⟨aM6, iM6, kM6⟩, fun_mk (st := st_Told_allows) lM6 cM6 kM6, (fun_mk (st := st_Told_allows) lM6 cM6 kM6).binds (ps := ["self", "operation"]) fun _ _ _ _ _ _ us hl => match us, hl with | [_, _], _ => rfl⟩
  have S_is_name : Src K mg "is_name" st_is_name ["value"] := ⟨f1, _, PySem.W.mg_of X G a1, fun_mk (st := st_is_name) l1 c1 k1, (fun_mk (st := st_is_name) l1 c1 k1).binds (ps := ["value"]) fun _ _ _ _ _ _ us hl => match us, hl with | [_], _ => rfl⟩
  have S_is_entry : Src K mg "is_entry" st_is_entry ["value", "names"] := ⟨f2, _, PySem.W.mg_of X G a2, fun_mk (st := st_is_entry) l2 c2 k2, (fun_mk (st := st_is_entry) l2 c2 k2).binds (ps := ["value", "names"]) fun _ _ _ _ _ _ us hl => match us, hl with | [_, _], _ => rfl⟩
  have S_is_table : Src K mg "is_table" st_is_table ["value"] := ⟨f3, _, PySem.W.mg_of X G a3, fun_mk (st := st_is_table) l3 c3 k3, (fun_mk (st := st_is_table) l3 c3 k3).binds (ps := ["value"]) fun _ _ _ _ _ _ us hl => match us, hl with | [_], _ => rfl⟩
  have S_check_table : Src K mg "check_table" st_check_table ["table"] := ⟨f4, _, PySem.W.mg_of X G a4, fun_mk (st := st_check_table) l4 c4 k4, (fun_mk (st := st_check_table) l4 c4 k4).binds (ps := ["table"]) fun _ _ _ _ _ _ us hl => match us, hl with | [_], _ => rfl⟩
  have S_cells_in : Src K mg "cells_in" st_cells_in ["table", "name"] := ⟨f5, _, PySem.W.mg_of X G a5, fun_mk (st := st_cells_in) l5 c5 k5, (fun_mk (st := st_cells_in) l5 c5 k5).binds (ps := ["table", "name"]) fun _ _ _ _ _ _ us hl => match us, hl with | [_, _], _ => rfl⟩
  have S_name_in : Src K mg "name_in" st_name_in ["entry"] := ⟨f6, _, PySem.W.mg_of X G a6, fun_mk (st := st_name_in) l6 c6 k6, (fun_mk (st := st_name_in) l6 c6 k6).binds (ps := ["entry"]) fun _ _ _ _ _ _ us hl => match us, hl with | [_], _ => rfl⟩
  have S_kind_fault : Src K mg "kind_fault" st_kind_fault ["table", "roots", "registers", "program"] := ⟨f7, _, PySem.W.mg_of X G a7, fun_mk (st := st_kind_fault) l7 c7 k7, (fun_mk (st := st_kind_fault) l7 c7 k7).binds (ps := ["table", "roots", "registers", "program"]) fun _ _ _ _ _ _ us hl => match us, hl with | [_, _, _, _], _ => rfl⟩
  have S_keeping : Src K mg "keeping" st_keeping ["table", "roots", "registers", "program"] := ⟨f8, _, PySem.W.mg_of X G a8, fun_mk (st := st_keeping) l8 c8 k8, (fun_mk (st := st_keeping) l8 c8 k8).binds (ps := ["table", "roots", "registers", "program"]) fun _ _ _ _ _ _ us hl => match us, hl with | [_, _, _, _], _ => rfl⟩
  have S__law_tape : Src K mg "_law_tape" st__law_tape ["script"] := ⟨f9, _, PySem.W.mg_of X G a9, fun_mk (st := st__law_tape) l9 c9 k9, (fun_mk (st := st__law_tape) l9 c9 k9).binds (ps := ["script"]) fun _ _ _ _ _ _ us hl => match us, hl with | [_], _ => rfl⟩
  have S__law_draw : Src K mg "_law_draw" st__law_draw ["tape", "many"] := ⟨f10, _, PySem.W.mg_of X G a10, fun_mk (st := st__law_draw) l10 c10 k10, (fun_mk (st := st__law_draw) l10 c10 k10).binds (ps := ["tape", "many"]) fun _ _ _ _ _ _ us hl => match us, hl with | [_, _], _ => rfl⟩
  have S__law_pick : Src K mg "_law_pick" st__law_pick ["tape", "row"] := ⟨f11, _, PySem.W.mg_of X G a11, fun_mk (st := st__law_pick) l11 c11 k11, (fun_mk (st := st__law_pick) l11 c11 k11).binds (ps := ["tape", "row"]) fun _ _ _ _ _ _ us hl => match us, hl with | [_, _], _ => rfl⟩
  have S__law_table : Src K mg "_law_table" st__law_table ["tape"] := ⟨f12, _, PySem.W.mg_of X G a12, fun_mk (st := st__law_table) l12 c12 k12, (fun_mk (st := st__law_table) l12 c12 k12).binds (ps := ["tape"]) fun _ _ _ _ _ _ us hl => match us, hl with | [_], _ => rfl⟩
  have S__law_entries : Src K mg "_law_entries" st__law_entries ["table", "name"] := ⟨f13, _, PySem.W.mg_of X G a13, fun_mk (st := st__law_entries) l13 c13 k13, (fun_mk (st := st__law_entries) l13 c13 k13).binds (ps := ["table", "name"]) fun _ _ _ _ _ _ us hl => match us, hl with | [_, _], _ => rfl⟩
  have S__law_same : Src K mg "_law_same" st__law_same ["one", "other"] := ⟨f14, _, PySem.W.mg_of X G a14, fun_mk (st := st__law_same) l14 c14 k14, (fun_mk (st := st__law_same) l14 c14 k14).binds (ps := ["one", "other"]) fun _ _ _ _ _ _ us hl => match us, hl with | [_, _], _ => rfl⟩
  have S__law_allows : Src K mg "_law_allows" st__law_allows ["table", "roots", "registers", "operation"] := ⟨f15, _, PySem.W.mg_of X G a15, fun_mk (st := st__law_allows) l15 c15 k15, (fun_mk (st := st__law_allows) l15 c15 k15).binds (ps := ["table", "roots", "registers", "operation"]) fun _ _ _ _ _ _ us hl => match us, hl with | [_, _, _, _], _ => rfl⟩
  have S__law_operation : Src K mg "_law_operation" st__law_operation ["tape", "roots", "registers"] := ⟨f16, _, PySem.W.mg_of X G a16, fun_mk (st := st__law_operation) l16 c16 k16, (fun_mk (st := st__law_operation) l16 c16 k16).binds (ps := ["tape", "roots", "registers"]) fun _ _ _ _ _ _ us hl => match us, hl with | [_, _, _], _ => rfl⟩
  have S__law_refused : Src K mg "_law_refused" st__law_refused ["tape", "table", "roots", "registers"] := ⟨f17, _, PySem.W.mg_of X G a17, fun_mk (st := st__law_refused) l17 c17 k17, (fun_mk (st := st__law_refused) l17 c17 k17).binds (ps := ["tape", "table", "roots", "registers"]) fun _ _ _ _ _ _ us hl => match us, hl with | [_, _, _, _], _ => rfl⟩
  have FL := fun_mk (st := st_law) l18 c18 k18
  refine ⟨PySem.W.fnOf "law" "law" (defArgs st_law) (defBody st_law) (defScope st_law) .none kV18 dc18 pm18 an18 cd18 ct18, fun s v => .of_eq rfl, fun base _ _ => ?_⟩
  have C_is_name := cal_is_name (P := l.prog) (w := w) (base := base) S_is_name T
  have C_is_entry := cal_is_entry (P := l.prog) (w := w) (base := base) S_is_entry T
  have C_is_table := cal_is_table S_is_table T C_is_name C_is_entry
  have C_check_table := cal_check_table S_check_table T XK C_is_table
  have C_cells_in := cal_cells_in (P := l.prog) (w := w) (base := base) S_cells_in T
  have C_name_in := cal_name_in (P := l.prog) (w := w) (base := base) S_name_in T
  have M_entry := cal_entry S_entry T TT C_cells_in
  have M_put := cal_may_put S_may_put T TT C_cells_in
  have M_set := cal_may_set S_may_set T TT M_entry
  have M_load := cal_may_load S_may_load T TT M_entry C_name_in
  have M_store := cal_may_store S_may_store T TT M_entry C_name_in
  have M_allows := cal_allows S_allows T TT M_entry M_put M_set M_load M_store
  have C_Told := cal_init S_init T TT XK C_check_table C_cells_in
  have C_kind_fault := cal_kind_fault S_kind_fault T TT C_Told M_allows
  have C_keeping := cal_keeping S_keeping T TT C_Told M_allows
  have C__law_tape := cal__law_tape (P := l.prog) (w := w) (base := base) S__law_tape T
  have C__law_draw := cal__law_draw (P := l.prog) (w := w) (base := base) S__law_draw T
  have C__law_pick := cal__law_pick S__law_pick T C__law_draw
  have C__law_table := cal__law_table S__law_table T C__law_draw C__law_pick
  have C__law_same := cal__law_same (P := l.prog) (w := w) (base := base) S__law_same T 4
  have C__law_entries := cal__law_entries (P := l.prog) (w := w) (base := base) S__law_entries T
  have C__law_allows := cal__law_allows S__law_allows T C__law_entries
  have C__law_operation := cal__law_operation S__law_operation T C__law_draw C__law_pick
  have C__law_refused := cal__law_refused S__law_refused T XK C__law_pick C_keeping C_kind_fault
  exact ok_law FL T C__law_tape C__law_draw C__law_pick C__law_table C__law_operation C__law_allows C_keeping C_kind_fault C__law_same C__law_refused
end
theorem walk {l : PySem.W.OpenLaw} {q : Program} {loose : List Str} {XP : (Str → Option Value) → Heap → Prop} {YP : World → Heap → Prop} {d : DefRec} {K : Params → PySem.W.Frag} (hn : l.most = some 63) (hdf : d.params.defaults = [])
    (hY : ∀ (w : World) (h : Heap), YP w h → (K w.params).In h)
    (F : ∀ (w : World) (mg : Str → Option Value) (fa : Addr) (h : Heap), (K w.params).In h → h.Ns mainGlobals mg → mg d.name = some (.ref fa) →
      ∃ fd : FuncData, (∀ (s : Shared) (u : Value), BindsTo s fd ⟨[u], []⟩ [("script", u)]) ∧ ∀ base : Heap, (K w.params).In base → base.Ns mainGlobals mg → FnOk l.prog w (K w.params) mg base CX0 8 fa fd ["script"] (sp_law (K w.params))) :
    PySem.W.WalkO q loose XP YP l.row.toRowW d [] (fun f vs => PySem.call f vs) :=
  L2.walk_of (n := 63) (k := 8) (x := "script") (CX := fun _ => CX0) (sp := fun w => sp_law (K w.params)) hn (by decide) hdf ⟨rfl, by decide, by decide⟩ hY F (fun _ _ a ns hl _ hS => ⟨a, ns, rfl, hS, hl, fun _ => rfl⟩) fun _ _ _ _ _ z => z
end K35
open PySem PySem.W PyProof.Rows
set_option maxRecDepth 100000 in
set_option maxHeartbeats 0 in
theorem PySem.Challenge.cw_gleanworld_k35_whole_what_keeps_kinds_holds : PySem.Challenge.rw_gleanworld_k35_whole_what_keeps_kinds.Holds := by
  w_on; o_law; k_head; (case hw => w_witness2)
  k_fill
  refine K35.walk (l := PySem.Challenge.rw_gleanworld_k35_whole_what_keeps_kinds) rfl rfl (fun w h Y => PySem.W.kIn_of Y) ?F
  case F =>
    intro w mg fa h KX G hmg
    refine' K35.all_mk KX G hmg ?gC ?gK ?xK ?kK ?eK ?tK ?isK ?sfK ?pgC ?hdC ?poC ?saC ?mkC ?kpC ?nT ?nR ?nG ?aM0 ?lM0 ?cM0 ?kM0 ?iM0 ?aM1 ?lM1 ?cM1 ?kM1 ?iM1 ?aM2 ?lM2 ?cM2 ?kM2 ?iM2 ?aM3 ?lM3 ?cM3 ?kM3 ?iM3 ?aM4 ?lM4 ?cM4 ?kM4 ?iM4 ?aM5 ?lM5 ?cM5 ?kM5 ?iM5 ?aM6 ?lM6 ?cM6 ?kM6 ?iM6 ?a1 ?l1 ?c1 ?k1 ?a2 ?l2 ?c2 ?k2 ?a3 ?l3 ?c3 ?k3 ?a4 ?l4 ?c4 ?k4 ?a5 ?l5 ?c5 ?k5 ?a6 ?l6 ?c6 ?k6 ?a7 ?l7 ?c7 ?k7 ?a8 ?l8 ?c8 ?k8 ?a9 ?l9 ?c9 ?k9 ?a10 ?l10 ?c10 ?k10 ?a11 ?l11 ?c11 ?k11 ?a12 ?l12 ?c12 ?k12 ?a13 ?l13 ?c13 ?k13 ?a14 ?l14 ?c14 ?k14 ?a15 ?l15 ?c15 ?k15 ?a16 ?l16 ?c16 ?k16 ?a17 ?l17 ?c17 ?k17 ?a18 ?l18 ?c18 ?k18 ?z_isinstance ?z_len ?z_all ?z_zip ?z_tuple ?z_str ?z_enumerate ?z_sorted ?z_int ?z_abs ?z_list ?z_range ?z_any ?v_MOST_NAME ?v_LETTERS ?v_INTEGER ?v_NONE
    (case gC => k_is); (case gK => k_is)
    (case xK => k_exc); (case kK => k_is); (case eK => k_is); (case tK => k_is); (case isK => k_is); (case sfK => first | rfl | k_is); (case pgC => k_is); (case hdC => k_is); (case poC => k_is); (case saC => k_is); (case mkC => k_is); (case kpC => k_is); (case nT => k_is); (case nR => k_is); (case nG => k_is)
    (case aM0 => k_is); (case lM0 => k_is); (case cM0 => k_is); (case kM0 => k_is); (case iM0 => k_is)
    (case aM1 => k_is); (case lM1 => k_is); (case cM1 => k_is); (case kM1 => k_is); (case iM1 => k_is)
    (case aM2 => k_is); (case lM2 => k_is); (case cM2 => k_is); (case kM2 => k_is); (case iM2 => k_is)
    (case aM3 => k_is); (case lM3 => k_is); (case cM3 => k_is); (case kM3 => k_is); (case iM3 => k_is)
    (case aM4 => k_is); (case lM4 => k_is); (case cM4 => k_is); (case kM4 => k_is); (case iM4 => k_is)
    (case aM5 => k_is); (case lM5 => k_is); (case cM5 => k_is); (case kM5 => k_is); (case iM5 => k_is)
    (case aM6 => k_is); (case lM6 => k_is); (case cM6 => k_is); (case kM6 => k_is); (case iM6 => k_is)
    (case a1 => k_is); (case l1 => k_is); (case c1 => k_is); (case k1 => k_is)
    (case a2 => k_is); (case l2 => k_is); (case c2 => k_is); (case k2 => k_is)
    (case a3 => k_is); (case l3 => k_is); (case c3 => k_is); (case k3 => k_is)
    (case a4 => k_is); (case l4 => k_is); (case c4 => k_is); (case k4 => k_is)
    (case a5 => k_is); (case l5 => k_is); (case c5 => k_is); (case k5 => k_is)
    (case a6 => k_is); (case l6 => k_is); (case c6 => k_is); (case k6 => k_is)
    (case a7 => k_is); (case l7 => k_is); (case c7 => k_is); (case k7 => k_is)
    (case a8 => k_is); (case l8 => k_is); (case c8 => k_is); (case k8 => k_is)
    (case a9 => k_is); (case l9 => k_is); (case c9 => k_is); (case k9 => k_is)
    (case a10 => k_is); (case l10 => k_is); (case c10 => k_is); (case k10 => k_is)
    (case a11 => k_is); (case l11 => k_is); (case c11 => k_is); (case k11 => k_is)
    (case a12 => k_is); (case l12 => k_is); (case c12 => k_is); (case k12 => k_is)
    (case a13 => k_is); (case l13 => k_is); (case c13 => k_is); (case k13 => k_is)
    (case a14 => k_is); (case l14 => k_is); (case c14 => k_is); (case k14 => k_is)
    (case a15 => k_is); (case l15 => k_is); (case c15 => k_is); (case k15 => k_is)
    (case a16 => k_is); (case l16 => k_is); (case c16 => k_is); (case k16 => k_is)
    (case a17 => k_is); (case l17 => k_is); (case c17 => k_is); (case k17 => k_is)
    (case a18 => k_is); (case l18 => k_is); (case c18 => k_is); (case k18 => k_is)
    (case z_isinstance => k_is); (case z_len => k_is); (case z_all => k_is); (case z_zip => k_is); (case z_tuple => k_is); (case z_str => k_is); (case z_enumerate => k_is); (case z_sorted => k_is); (case z_int => k_is); (case z_abs => k_is); (case z_list => k_is); (case z_range => k_is); (case z_any => k_is)
    (case v_MOST_NAME => k_is); (case v_LETTERS => k_is); (case v_INTEGER => k_is); (case v_NONE => k_is)

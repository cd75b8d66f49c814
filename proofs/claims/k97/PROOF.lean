import PyProof.Rows.All
import Wide.All
import OpenK.AllK
import Wide.FinOn
import HandS.ForMost
import HandS.ForExc
import HandS.Evl
import HandS.Walk
import HandS.Zip
import HandS.IsInst
import HandS.TupAny
import HandS.Steps
import HandS.Iter
import HandS.Text
import HandS.Comp
import HandS.ExcInit
import HandS.ExcField
import HandS.ExcBuiltin
import HandS.EndBits
import HandS.Small
import HandS.Flow
import KE.KDictPairs
import HandS.ListItems
import PyProof.TupleOfSeq
import PyProof.RulesMatchSeq
import PyProof.Rows.MatchSeqLen
import PyProof.EnumMake
import PyProof.Draws
import KE.GoesMore
import HandS.Deep
import HandS.TupMul
import HandS.ForDict
import PySem.Challenge.RW_gleanworld_k97_whole_tellers_step_by_ste
import HandS.Style
set_option Elab.async false
set_option linter.all false
set_option maxRecDepth 100000
set_option maxHeartbeats 2000000
/-! Pd: immutable data over the abstract heap, and what expressions evaluate to as data. -/
namespace Pd
open PySem L2 Evl

mutual
/-- v is data d in H: tuples and lists are tracked there -/
inductive Im (H : Hp) : V → PyData → Prop
  | non : Im H .non .none
  | bl (b : Bool) : Im H (.bl b) (.bool b)
  | int (i : Int) : Im H (.int i) (.int i)
  | str (x : Str) : Im H (.str x) (.str x)
  | lst {a : Addr} {xs : List V} {ds : List PyData} : H a = some (.lst xs) → Ims H xs ds → Im H (.ref a) (.list ds)
  | tup {a : Addr} {xs : List V} {ds : List PyData} : H a = some (.tup xs) → Ims H xs ds → Im H (.ref a) (.tuple ds)
inductive Ims (H : Hp) : List V → List PyData → Prop
  | nil : Ims H [] []
  | cons {v : V} {vs : List V} {d : PyData} {ds : List PyData} : Im H v d → Ims H vs ds → Ims H (v :: vs) (d :: ds)
end

mutual
theorem Im.mono {H H' : Hp} (e : Ex H H') : ∀ {d : PyData} {v : V}, Im H v d → Im H' v d
  | .none, _, h => by cases h; exact .non
  | .bool _, _, h => by cases h; exact .bl _
  | .int _, _, h => by cases h; exact .int _
  | .str _, _, h => by cases h; exact .str _
  | .list ds, _, h => by cases h with | lst h1 h2 => exact .lst (e _ _ h1) (Ims.mono e h2)
  | .tuple ds, _, h => by cases h with | tup h1 h2 => exact .tup (e _ _ h1) (Ims.mono e h2)
  | .dict _, _, h => by cases h
theorem Ims.mono {H H' : Hp} (e : Ex H H') : ∀ {ds : List PyData} {vs : List V}, Ims H vs ds → Ims H' vs ds
  | [], _, h => by cases h; exact .nil
  | d :: ds, _, h => by cases h with | cons h1 h2 => exact .cons (Im.mono e h1) (Ims.mono e h2)
end

mutual
/-- no list within -/
def still : PyData → Bool
  | .list _ => false
  | .dict _ => false
  | .tuple ds => stills ds
  | _ => true
def stills : List PyData → Bool
  | [] => true
  | d :: ds => still d && stills ds
end
/-- the tuples stay -/
def Tx (H H' : Hp) : Prop := ∀ a xs, H a = some (.tup xs) → H' a = some (.tup xs)
theorem Tx.refl (H : Hp) : Tx H H := fun _ _ h => h
theorem Tx.trans {H H1 H2 : Hp} (a : Tx H H1) (b : Tx H1 H2) : Tx H H2 := fun x o h => b x o (a x o h)
theorem Tx.of {H H' : Hp} (e : Ex H H') : Tx H H' := fun a xs h => e a _ h
mutual
theorem Im.tx {H H' : Hp} (e : Tx H H') : ∀ {d : PyData} {v : V}, still d = true → Im H v d → Im H' v d
  | .none, _, _, h => by cases h; exact .non
  | .bool _, _, _, h => by cases h; exact .bl _
  | .int _, _, _, h => by cases h; exact .int _
  | .str _, _, _, h => by cases h; exact .str _
  | .list ds, _, s, h => by cases s
  | .tuple ds, _, s, h => by cases h with | tup h1 h2 => exact .tup (e _ _ h1) (Ims.tx e s h2)
  | .dict _, _, _, h => by cases h
theorem Ims.tx {H H' : Hp} (e : Tx H H') : ∀ {ds : List PyData} {vs : List V}, stills ds = true → Ims H vs ds → Ims H' vs ds
  | [], _, _, h => by cases h; exact .nil
  | d :: ds, _, s, h => by
    cases h with
    | cons h1 h2 =>
      have s' : still d = true ∧ stills ds = true := Bool.and_eq_true_iff.mp s
      exact .cons (Im.tx e s'.1 h1) (Ims.tx e s'.2 h2)
end

theorem Ims.length {H : Hp} : ∀ {ds : List PyData} {vs : List V}, Ims H vs ds → vs.length = ds.length
  | [], _, h => by cases h; rfl
  | d :: ds, _, h => by cases h with | cons h1 h2 => simp [Ims.length h2]
theorem Ims.get {H : Hp} : ∀ {ds : List PyData} {vs : List V} {i : Nat} {v : V}, Ims H vs ds → vs[i]? = some v → ∃ d, ds[i]? = some d ∧ Im H v d
  | [], _, _, _, h, e => by cases h; simp at e
  | d :: ds, _, 0, v, h, e => by cases h with | cons h1 h2 => simp at e; subst e; exact ⟨d, rfl, h1⟩
  | d :: ds, _, i + 1, v, h, e => by cases h with | cons h1 h2 => exact Ims.get (i := i) h2 (by simpa using e)
theorem Ims.getD {H : Hp} : ∀ {ds : List PyData} {vs : List V} {i : Nat} {d : PyData}, Ims H vs ds → ds[i]? = some d → ∃ v, vs[i]? = some v ∧ Im H v d
  | [], _, _, _, h, e => by simp at e
  | d :: ds, _, 0, v, h, e => by cases h with | cons h1 h2 => simp at e; subst e; exact ⟨_, rfl, h1⟩
  | d :: ds, _, i + 1, v, h, e => by cases h with | cons h1 h2 => exact Ims.getD (i := i) h2 (by simpa using e)
theorem Ims.append {H : Hp} : ∀ {ds es : List PyData} {vs ws : List V}, Ims H vs ds → Ims H ws es → Ims H (vs ++ ws) (ds ++ es)
  | [], _, _, _, h, k => by cases h; exact k
  | d :: ds, _, _, _, h, k => by cases h with | cons h1 h2 => exact .cons h1 (Ims.append h2 k)
theorem Ims.take {H : Hp} : ∀ {ds : List PyData} {vs : List V} (n : Nat), Ims H vs ds → Ims H (vs.take n) (ds.take n)
  | _, _, 0, _ => .nil
  | [], _, n + 1, h => by cases h; exact .nil
  | d :: ds, _, n + 1, h => by cases h with | cons h1 h2 => exact .cons h1 (Ims.take n h2)
theorem Ims.drop {H : Hp} : ∀ {ds : List PyData} {vs : List V} (n : Nat), Ims H vs ds → Ims H (vs.drop n) (ds.drop n)
  | _, _, 0, h => h
  | [], _, n + 1, h => by cases h; exact .nil
  | d :: ds, _, n + 1, h => by cases h with | cons h1 h2 => exact Ims.drop n h2

/-- inversions -/
theorem Im.s {H : Hp} {v : V} {x : Str} (h : Im H v (.str x)) : v = .str x := by cases h; rfl
theorem Im.i {H : Hp} {v : V} {x : Int} (h : Im H v (.int x)) : v = .int x := by cases h; rfl
theorem Im.b {H : Hp} {v : V} {x : Bool} (h : Im H v (.bool x)) : v = .bl x := by cases h; rfl
theorem Im.n {H : Hp} {v : V} (h : Im H v .none) : v = .non := by cases h; rfl
theorem Im.t {H : Hp} {v : V} {ds : List PyData} (h : Im H v (.tuple ds)) : ∃ a xs, v = .ref a ∧ H a = some (.tup xs) ∧ Ims H xs ds := by cases h with | tup h1 h2 => exact ⟨_, _, rfl, h1, h2⟩
theorem Im.l {H : Hp} {v : V} {ds : List PyData} (h : Im H v (.list ds)) : ∃ a xs, v = .ref a ∧ H a = some (.lst xs) ∧ Ims H xs ds := by cases h with | lst h1 h2 => exact ⟨_, _, rfl, h1, h2⟩
theorem Ims.strs {H : Hp} : ∀ {ss : List Str} {vs : List V}, Ims H vs (ss.map PyData.str) → vs = ss.map V.str
  | [], _, h => by cases h; rfl
  | s :: ss, _, h => by cases h with | cons h1 h2 => rw [h1.s, Ims.strs h2]; rfl
theorem Ims.bls {H : Hp} : ∀ {ss : List Bool} {vs : List V}, Ims H vs (ss.map PyData.bool) → vs = ss.map V.bl
  | [], _, h => by cases h; rfl
  | s :: ss, _, h => by cases h with | cons h1 h2 => rw [h1.b, Ims.bls h2]; rfl
theorem Ims.ofStrs {H : Hp} : ∀ ss : List Str, Ims H (ss.map V.str) (ss.map PyData.str)
  | [] => .nil
  | s :: ss => .cons (.str s) (Ims.ofStrs ss)

mutual
theorem Im.dp {K : PySem.W.Frag} {H : Hp} : ∀ {d : PyData} {v : V}, Im H v d → Dp K H v d
  | .none, _, h => by cases h; exact .non
  | .bool _, _, h => by cases h; exact .bl _
  | .int _, _, h => by cases h; exact .int _
  | .str _, _, h => by cases h; exact .str _
  | .list ds, _, h => by cases h with | lst h1 h2 => exact .lst (SqL.of h1) (Ims.dp h2)
  | .tuple ds, _, h => by cases h with | tup h1 h2 => exact .tup (SqT.of h1) (Ims.dp h2)
  | .dict _, _, h => by cases h
theorem Ims.dp {K : PySem.W.Frag} {H : Hp} : ∀ {ds : List PyData} {vs : List V}, Ims H vs ds → DpAll K H vs ds
  | [], _, h => by cases h; exact .nil
  | d :: ds, _, h => by cases h with | cons h1 h2 => exact .cons (Im.dp h1) (Ims.dp h2)
end

/-! ### what evaluates to what data -/
def EvD (te : TE) (σ : L2.St) (H : Hp) (d : PyData) : Prop := ∀ H1, Ex H H1 → ∀ Q : VK, (∀ v H2, Ex H1 H2 → Im H2 v d → Q v H2) → te σ H1 Q
/-- a new list -/
def EvN (te : TE) (σ : L2.St) (H : Hp) (ds : List PyData) : Prop := ∀ H1, Ex H H1 → ∀ Q : VK, (∀ p xs H2, H1 p = none → Ex H1 H2 → H2 p = some (.lst xs) → Ims H2 xs ds → Q (.ref p) H2) → te σ H1 Q
def EvDs (ta : TA) (σ : L2.St) (H : Hp) (ds : List PyData) : Prop := ∀ H1, Ex H H1 → ∀ Q : List V → Hp → Prop, (∀ vs H2, Ex H1 H2 → Ims H2 vs ds → Q vs H2) → ta σ H1 Q

section
variable {K : PySem.W.Frag} {σ : L2.St} {H H' : Hp} {ta tb te tx tl : TE} {t u : TT} {x y z v : V} {d d' e' : PyData} {ds es : List PyData}
theorem EvD.mono (e : Ex H H') (h : EvD te σ H d) : EvD te σ H' d := fun H1 a Q q => h H1 (e.trans a) Q q
theorem EvN.mono (e : Ex H H') (h : EvN te σ H ds) : EvN te σ H' ds := fun H1 a Q q => h H1 (e.trans a) Q q
theorem EvDs.mono {ta : TA} (e : Ex H H') (h : EvDs ta σ H ds) : EvDs ta σ H' ds := fun H1 a Q q => h H1 (e.trans a) Q q
theorem EvN.toD (h : EvN te σ H ds) : EvD te σ H (.list ds) := fun H1 a Q q => h H1 a Q fun p xs H2 _ e1 e2 e3 => q _ H2 e1 (.lst e2 e3)
theorem EvN.is {es : List PyData} (h : EvN te σ H ds) (e : ds = es) : EvN te σ H es := e ▸ h
theorem EvD.is (h : EvD te σ H d) (e : d = d') : EvD te σ H d' := e ▸ h
theorem ed_var {i : Nat} (h : σ[i]? = some (some v)) (hd : Im H v d) : EvD (tVar i) σ H d := fun H1 e _ q => ⟨v, h, q v H1 (Ex.refl H1) (hd.mono e)⟩
theorem ed_c (h : Im H v d) : EvD (tC v) σ H d := fun H1 e _ q => q v H1 (Ex.refl H1) (h.mono e)
theorem ed_i (i : Int) : EvD (tC (.int i)) σ H (.int i) := ed_c (.int i)
theorem ed_s (i : Str) : EvD (tC (.str i)) σ H (.str i) := ed_c (.str i)
theorem ed_b (i : Bool) : EvD (tC (.bl i)) σ H (.bool i) := ed_c (.bl i)
theorem ed_n : EvD (tC .non) σ H .none := ed_c .non
theorem ea0 : EvDs tNil σ H [] := fun H1 _ _ q => q _ H1 (Ex.refl H1) .nil
theorem ea1 {tr : TA} (h : EvD ta σ H d) (hr : EvDs tr σ H ds) : EvDs (tCons ta tr) σ H (d :: ds) := fun H1 e _ q =>
  h H1 e _ fun v H2 e2 i2 => hr H2 (e.trans e2) _ fun vs H3 e3 i3 => q _ H3 (e2.trans e3) (.cons (i2.mono e3) i3)
theorem ed_tup {ta : TA} (h : EvDs ta σ H ds) (hl : ds.length ≤ 100000) : EvD (tTup ta) σ H (.tuple ds) := fun H1 e _ q =>
  h H1 e _ fun vs H2 e2 i2 => ⟨sz_of (by rw [i2.length]; exact hl), fun p hp => q _ _ (e2.trans (Ex.new hp)) (.tup upd_same (i2.mono (Ex.new hp)))⟩
theorem en_lst {ta : TA} (h : EvDs ta σ H ds) (hl : ds.length ≤ 100000) : EvN (tLst ta) σ H ds := fun H1 e _ q =>
  h H1 e _ fun vs H2 e2 i2 => ⟨sz_of (by rw [i2.length]; exact hl), fun p hp => q _ _ _ (fresh_back e2 hp) (e2.trans (Ex.new hp)) upd_same (i2.mono (Ex.new hp))⟩
/-- an operator on two values -/
theorem ed_op {r : R2} (ha : EvD ta σ H d) (hb : EvD tb σ H e') (hr : ∀ x y H1, Ex H H1 → Im H1 x d → Im H1 y e' → ∀ Q : VK, (∀ v H2, Ex H1 H2 → Im H2 v d' → Q v H2) → r x y H1 Q) : EvD (tOp r ta tb) σ H d' := fun H1 e Q q =>
  ha H1 e _ fun x H2 e2 i2 => hb H2 (e.trans e2) _ fun y H3 e3 i3 => hr x y H3 ((e.trans e2).trans e3) (i2.mono e3) i3 Q fun v H4 e4 i4 => q v H4 ((e2.trans e3).trans e4) i4
theorem en_op {r : R2} (ha : EvD ta σ H d) (hb : EvD tb σ H e') (hr : ∀ x y H1, Ex H H1 → Im H1 x d → Im H1 y e' → ∀ Q : VK, (∀ p xs H2, H1 p = none → Ex H1 H2 → H2 p = some (.lst xs) → Ims H2 xs ds → Q (.ref p) H2) → r x y H1 Q) : EvN (tOp r ta tb) σ H ds := fun H1 e Q q =>
  ha H1 e _ fun x H2 e2 i2 => hb H2 (e.trans e2) _ fun y H3 e3 i3 => hr x y H3 ((e.trans e2).trans e3) (i2.mono e3) i3 Q fun p xs H4 n4 e4 i4 i5 => q p xs H4 (fresh_back (e2.trans e3) n4) ((e2.trans e3).trans e4) i4 i5
/-- ints -/
theorem ed_I0 {g : Int → Int → Int} {i j : Int} (ha : EvD ta σ H (.int i)) (hb : EvD tb σ H (.int j)) : EvD (tOp (rI0 fun i j => .int (g i j)) ta tb) σ H (.int (g i j)) :=
  ed_op ha hb fun x y H1 e hx hy Q q => ⟨i, j, hx.i, hy.i, q _ H1 (Ex.refl H1) (.int _)⟩
theorem ed_B0 {g : Int → Int → Bool} {i j : Int} (ha : EvD ta σ H (.int i)) (hb : EvD tb σ H (.int j)) : EvD (tOp (rI0 fun i j => .bl (g i j)) ta tb) σ H (.bool (g i j)) :=
  ed_op ha hb fun x y H1 e hx hy Q q => ⟨i, j, hx.i, hy.i, q _ H1 (Ex.refl H1) (.bl _)⟩
theorem ed_I {C : Int → Int → Prop} {g : Int → Int → Int} {i j : Int} (ha : EvD ta σ H (.int i)) (hb : EvD tb σ H (.int j)) (hc : C i j) : EvD (tOp (rI C fun i j => .int (g i j)) ta tb) σ H (.int (g i j)) :=
  ed_op ha hb fun x y H1 e hx hy Q q => ⟨i, j, hx.i, hy.i, hc, q _ H1 (Ex.refl H1) (.int _)⟩
/-- == of two texts, two ints -/
theorem ed_eqS {a b : Str} (ha : EvD ta σ H (.str a)) (hb : EvD tb σ H (.str b)) : EvD (tOp rEq ta tb) σ H (.bool (decide (a = b))) :=
  ed_op ha hb fun x y H1 e hx hy Q q => by
    rw [hx.s, hy.s]
    refine ⟨rfl, ?_⟩
    have h := q _ H1 (Ex.refl H1) (.bl (decide (a = b)))
    have e2 : decide (V.str a = V.str b) = decide (a = b) := by by_cases c : a = b <;> simp [c]
    rw [e2]; exact h
theorem ed_neS {a b : Str} (ha : EvD ta σ H (.str a)) (hb : EvD tb σ H (.str b)) : EvD (tOp rNe ta tb) σ H (.bool (!decide (a = b))) :=
  ed_op ha hb fun x y H1 e hx hy Q q => by
    rw [hx.s, hy.s]
    refine ⟨rfl, ?_⟩
    have h := q _ H1 (Ex.refl H1) (.bl (!decide (a = b)))
    have e2 : decide (V.str a = V.str b) = decide (a = b) := by by_cases c : a = b <;> simp [c]
    rw [e2]; exact h
theorem ed_eqI {a b : Int} (ha : EvD ta σ H (.int a)) (hb : EvD tb σ H (.int b)) : EvD (tOp rEq ta tb) σ H (.bool (decide (a = b))) :=
  ed_op ha hb fun x y H1 e hx hy Q q => by
    rw [hx.i, hy.i]
    refine ⟨rfl, ?_⟩
    have h := q _ H1 (Ex.refl H1) (.bl (decide (a = b)))
    have e2 : decide (V.int a = V.int b) = decide (a = b) := by by_cases c : a = b <;> simp [c]
    rw [e2]; exact h
theorem ed_neI {a b : Int} (ha : EvD ta σ H (.int a)) (hb : EvD tb σ H (.int b)) : EvD (tOp rNe ta tb) σ H (.bool (!decide (a = b))) :=
  ed_op ha hb fun x y H1 e hx hy Q q => by
    rw [hx.i, hy.i]
    refine ⟨rfl, ?_⟩
    have h := q _ H1 (Ex.refl H1) (.bl (!decide (a = b)))
    have e2 : decide (V.int a = V.int b) = decide (a = b) := by by_cases c : a = b <;> simp [c]
    rw [e2]; exact h
theorem ed_neB {a b : Bool} (ha : EvD ta σ H (.bool a)) (hb : EvD tb σ H (.bool b)) : EvD (tOp rNe ta tb) σ H (.bool (!decide (a = b))) :=
  ed_op ha hb fun x y H1 e hx hy Q q => by
    rw [hx.b, hy.b]
    refine ⟨rfl, ?_⟩
    have h := q _ H1 (Ex.refl H1) (.bl (!decide (a = b)))
    have e2 : decide (V.bl a = V.bl b) = decide (a = b) := by by_cases c : a = b <;> simp [c]
    rw [e2]; exact h
/-- == of data -/
theorem ed_eqD {d e' : PyData} (ha : EvD ta σ H d) (hb : EvD tb σ H e') (s1 : SeqAt.shaped d = true) (s2 : SeqAt.shaped e' = true) : EvD (tOp (rEqD K) ta tb) σ H (.bool (PyData.eqv d e')) :=
  ed_op ha hb fun x y H1 e hx hy Q q => ⟨d, e', hx.dp, hy.dp, s1, s2, q _ H1 (Ex.refl H1) (.bl _)⟩
theorem ed_neD {d e' : PyData} (ha : EvD ta σ H d) (hb : EvD tb σ H e') (s1 : SeqAt.shaped d = true) (s2 : SeqAt.shaped e' = true) : EvD (tOp (rNeD K) ta tb) σ H (.bool (!PyData.eqv d e')) :=
  ed_op ha hb fun x y H1 e hx hy Q q => ⟨d, e', hx.dp, hy.dp, s1, s2, q _ H1 (Ex.refl H1) (.bl _)⟩
/-- is None -/
def rIsN' : R2 := fun x y H Q => y = .non ∧ Q (.bl (decide (x = .non))) H
theorem ed_isN (ha : EvD ta σ H d) : EvD (tOp (fun x y H Q => y = .non ∧ Q (.bl (decide (x = .non))) H) ta (tC .non)) σ H (.bool (match d with | .none => true | _ => false)) :=
  ed_op ha ed_n fun x y H1 e hx hy Q q => ⟨hy.n, by
    cases hx <;> exact q _ H1 (Ex.refl H1) (.bl _)⟩
theorem ed_notN (ha : EvD ta σ H d) : EvD (tOp (fun x y H Q => y = .non ∧ Q (.bl (!decide (x = .non))) H) ta (tC .non)) σ H (.bool (match d with | .none => false | _ => true)) :=
  ed_op ha ed_n fun x y H1 e hx hy Q q => ⟨hy.n, by
    cases hx <;> exact q _ H1 (Ex.refl H1) (.bl _)⟩
/-- texts: <, >=, + -/
theorem ed_ltS {a b : Str} (ha : EvD ta σ H (.str a)) (hb : EvD tb σ H (.str b)) : EvD (tOp (fun x y H Q => ∃ i j, x = .str i ∧ y = .str j ∧ Q (.bl (decide (i.cps.toList < j.cps.toList))) H) ta tb) σ H (.bool (decide (a.cps.toList < b.cps.toList))) :=
  ed_op ha hb fun x y H1 e hx hy Q q => ⟨a, b, hx.s, hy.s, q _ H1 (Ex.refl H1) (.bl _)⟩
theorem ed_gtS {a b : Str} (ha : EvD ta σ H (.str a)) (hb : EvD tb σ H (.str b)) : EvD (tOp (fun x y H Q => ∃ i j, x = .str i ∧ y = .str j ∧ Q (.bl (decide (j.cps.toList < i.cps.toList))) H) ta tb) σ H (.bool (decide (b.cps.toList < a.cps.toList))) :=
  ed_op ha hb fun x y H1 e hx hy Q q => ⟨a, b, hx.s, hy.s, q _ H1 (Ex.refl H1) (.bl _)⟩
theorem ed_geS {a b : Str} (ha : EvD ta σ H (.str a)) (hb : EvD tb σ H (.str b)) : EvD (tOp (fun x y H Q => ∃ i j, x = .str i ∧ y = .str j ∧ Q (.bl (!decide (i.cps.toList < j.cps.toList))) H) ta tb) σ H (.bool (!decide (a.cps.toList < b.cps.toList))) :=
  ed_op ha hb fun x y H1 e hx hy Q q => ⟨a, b, hx.s, hy.s, q _ H1 (Ex.refl H1) (.bl _)⟩
theorem ed_addS {a b : Str} (ha : EvD ta σ H (.str a)) (hb : EvD tb σ H (.str b)) (hz : a.length + b.length ≤ 100000) : EvD (tOp (fun x y H Q => ∃ i j, x = .str i ∧ y = .str j ∧ i.length + j.length ≤ sizeLine ∧ Q (.str (i ++ j)) H) ta tb) σ H (.str (a ++ b)) :=
  ed_op ha hb fun x y H1 e hx hy Q q => ⟨a, b, hx.s, hy.s, sz_of hz, q _ H1 (Ex.refl H1) (.str _)⟩
/-- one sign in a text -/
theorem ed_inSign {c : Nat} {b : Str} (ha : EvD ta σ H (.str ⟨#[c]⟩)) (hb : EvD tb σ H (.str b)) : EvD (tOp (fun x y H Q => ∃ (c : Nat) (z : Str), x = .str ⟨#[c]⟩ ∧ y = .str z ∧ Q (.bl (decide (c ∈ z.cps.toList))) H) ta tb) σ H (.bool (decide (c ∈ b.cps.toList))) :=
  ed_op ha hb fun x y H1 e hx hy Q q => ⟨c, b, hx.s, hy.s, q _ H1 (Ex.refl H1) (.bl _)⟩
/-- a text in a tuple or list of texts -/
theorem inV_strs (a : Str) : ∀ ss : List Str, inV (.str a) (ss.map V.str) = decide (a ∈ ss)
  | [] => rfl
  | s :: ss => by
    have ih := inV_strs a ss
    unfold inV at ih ⊢
    rw [List.map_cons, List.any_cons, ih]
    by_cases c : a = s
    · subst c; simp [eqV]
    · have c' : ¬ s = a := fun z => c z.symm
      simp [eqV, c, c']
theorem flat_strs : ∀ ss : List Str, (ss.map V.str).all flatV = true
  | [] => rfl
  | s :: ss => by rw [List.map_cons, List.all_cons, flat_strs ss]; rfl
theorem ed_inT {a : Str} {ss : List Str} (ha : EvD ta σ H (.str a)) (hb : EvD tb σ H (.tuple (ss.map .str))) : EvD (tOp (rIn K false) ta tb) σ H (.bool (decide (a ∈ ss))) :=
  ed_op ha hb fun x y H1 e hx hy Q q => by
    obtain ⟨p, xs, rfl, h1, h2⟩ := hy.t
    have ex := h2.strs; subst ex; rw [hx.s]
    refine ⟨p, _, rfl, .inr (SqT.of h1), rfl, flat_strs ss, ?_⟩
    have h := q _ H1 (Ex.refl H1) (.bl (decide (a ∈ ss)))
    show Q (.bl (inV (.str a) (ss.map V.str))) H1
    rw [inV_strs]; exact h
theorem ed_niT {a : Str} {ss : List Str} (ha : EvD ta σ H (.str a)) (hb : EvD tb σ H (.tuple (ss.map .str))) : EvD (tOp (rIn K true) ta tb) σ H (.bool (!decide (a ∈ ss))) :=
  ed_op ha hb fun x y H1 e hx hy Q q => by
    obtain ⟨p, xs, rfl, h1, h2⟩ := hy.t
    have ex := h2.strs; subst ex; rw [hx.s]
    refine ⟨p, _, rfl, .inr (SqT.of h1), rfl, flat_strs ss, ?_⟩
    have h := q _ H1 (Ex.refl H1) (.bl (!decide (a ∈ ss)))
    show Q (.bl (!inV (.str a) (ss.map V.str))) H1
    rw [inV_strs]; exact h
theorem ed_inL {a : Str} {ss : List Str} (ha : EvD ta σ H (.str a)) (hb : EvD tb σ H (.list (ss.map .str))) : EvD (tOp (rIn K false) ta tb) σ H (.bool (decide (a ∈ ss))) :=
  ed_op ha hb fun x y H1 e hx hy Q q => by
    obtain ⟨p, xs, rfl, h1, h2⟩ := hy.l
    have ex := h2.strs; subst ex; rw [hx.s]
    refine ⟨p, _, rfl, .inl (SqL.of h1), rfl, flat_strs ss, ?_⟩
    have h := q _ H1 (Ex.refl H1) (.bl (decide (a ∈ ss)))
    show Q (.bl (inV (.str a) (ss.map V.str))) H1
    rw [inV_strs]; exact h
/-- subscripts -/
theorem atI_im {xs : List V} {i : Int} (h : Ims H xs ds) (ha : atI ds i = some d) : ∃ v, atI xs i = some v ∧ Im H v d := by
  unfold atI at ha ⊢
  rw [h.length]
  cases e : ixN ds.length i with
  | none => rw [e] at ha; cases ha
  | some j =>
    rw [e] at ha
    exact h.getD ha
theorem ed_ixT {i : Int} (ha : EvD ta σ H (.tuple ds)) (hb : EvD tb σ H (.int i)) (hi : atI ds i = some d) : EvD (tOp (rIxT K) ta tb) σ H d :=
  ed_op ha hb fun x y H1 e hx hy Q q => by
    obtain ⟨p, xs, rfl, h1, h2⟩ := hx.t
    obtain ⟨v, hv, iv⟩ := atI_im h2 hi
    exact ⟨p, xs, i, v, rfl, hy.i, SqT.of h1, hv, q _ H1 (Ex.refl H1) iv⟩
theorem ed_ixL {i : Int} (ha : EvD ta σ H (.list ds)) (hb : EvD tb σ H (.int i)) (hi : atI ds i = some d) : EvD (tOp (rIxL K) ta tb) σ H d :=
  ed_op ha hb fun x y H1 e hx hy Q q => by
    obtain ⟨p, xs, rfl, h1, h2⟩ := hx.l
    obtain ⟨v, hv, iv⟩ := atI_im h2 hi
    exact ⟨p, xs, i, v, rfl, hy.i, SqL.of h1, hv, q _ H1 (Ex.refl H1) iv⟩
/-- list + list, tuple + tuple -/
theorem en_cat (ha : EvD ta σ H (.list ds)) (hb : EvD tb σ H (.list es)) (hz : ds.length + es.length ≤ 100000) : EvN (tOp rCat ta tb) σ H (ds ++ es) :=
  en_op ha hb fun x y H1 e hx hy Q q => by
    obtain ⟨p, xs, rfl, h1, h2⟩ := hx.l
    obtain ⟨p', xs', rfl, h1', h2'⟩ := hy.l
    refine ⟨p, p', xs, xs', rfl, rfl, h1, h1', sz_of (by rw [h2.length, h2'.length]; exact hz), fun r hr => q r _ _ hr (Ex.new hr) upd_same ((h2.append h2').mono (Ex.new hr))⟩
theorem ed_catA (ha : EvD ta σ H (.tuple ds)) (hb : EvD tb σ H (.tuple es)) (hz : ds.length + es.length ≤ 100000) : EvD (tOp (rCatA K) ta tb) σ H (.tuple (ds ++ es)) :=
  ed_op ha hb fun x y H1 e hx hy Q q => by
    obtain ⟨p, xs, rfl, h1, h2⟩ := hx.t
    obtain ⟨p', xs', rfl, h1', h2'⟩ := hy.t
    refine ⟨p, p', xs, xs', rfl, rfl, SqT.of h1, SqT.of h1', sz_of (by rw [h2.length, h2'.length]; exact hz), fun z => ?_, fun _ z => ?_, fun _ _ r hr => ?_⟩
    · subst z; cases h2; exact q _ H1 (Ex.refl H1) (.tup h1' h2')
    · subst z; cases h2'; rw [List.append_nil] at q; exact q _ H1 (Ex.refl H1) (.tup h1 h2)
    · exact q _ _ (Ex.new hr) (.tup upd_same ((h2.append h2').mono (Ex.new hr)))
/-- slices -/
def cutD (ds : List PyData) (lo hi : Option Int) : List PyData := (ds.drop (HT.sIx ds.length 0 lo)).take (HT.sIx ds.length ds.length hi - HT.sIx ds.length 0 lo)
theorem Ims.cut {xs : List V} (h : Ims H xs ds) (lo hi : Option Int) : Ims H (cutV xs lo hi) (cutD ds lo hi) := by
  unfold cutV cutD
  rw [h.length]
  exact (h.drop _).take _
theorem en_slL {tl th : TO} {lo hi : Option Int} (h : EvD te σ H (.list ds)) (h1 : EvO tl σ H lo) (h2 : EvO th σ H hi) : EvN (tSl (rSlL K) te tl th) σ H (cutD ds lo hi) := fun H1 e Q q =>
  h H1 e _ fun v H2 e2 i2 => h1 H2 (e.trans e2) _ fun H3 e3 => h2 H3 ((e.trans e2).trans e3) _ fun H4 e4 => by
    obtain ⟨p, xs, rfl, g1, g2⟩ := ((i2.mono e3).mono e4).l
    exact ⟨p, xs, rfl, SqL.of g1, fun r hr => q r _ _ (fresh_back ((e2.trans e3).trans e4) hr) (((e2.trans e3).trans e4).trans (Ex.new hr)) upd_same ((g2.cut lo hi).mono (Ex.new hr))⟩
theorem sIx_whole {n : Nat} {lo hi : Option Int} (h : HT.sIx n 0 lo = 0 ∧ HT.sIx n n hi = n) (l : List PyData) (hl : l.length = n) : cutD l lo hi = l := by
  subst hl
  unfold cutD
  rw [h.1, h.2, List.drop_zero, Nat.sub_zero, List.take_length]
theorem ed_slA {tl th : TO} {lo hi : Option Int} (h : EvD te σ H (.tuple ds)) (h1 : EvO tl σ H lo) (h2 : EvO th σ H hi) : EvD (tSl (rSlA K) te tl th) σ H (.tuple (cutD ds lo hi)) := fun H1 e Q q =>
  h H1 e _ fun v H2 e2 i2 => h1 H2 (e.trans e2) _ fun H3 e3 => h2 H3 ((e.trans e2).trans e3) _ fun H4 e4 => by
    obtain ⟨p, xs, rfl, g1, g2⟩ := ((i2.mono e3).mono e4).t
    refine ⟨p, xs, rfl, SqT.of g1, fun z => ?_, fun _ r hr => q _ _ (((e2.trans e3).trans e4).trans (Ex.new hr)) (.tup upd_same ((g2.cut lo hi).mono (Ex.new hr)))⟩
    rw [g2.length] at z
    rw [sIx_whole z ds rfl] at q
    exact q _ H4 ((e2.trans e3).trans e4) (.tup g1 g2)
theorem ed_slS {tl th : TO} {a : Str} {lo hi : Option Int} (h : EvD te σ H (.str a)) (hz : a.length ≤ 100000) (h1 : EvO tl σ H lo) (h2 : EvO th σ H hi) : EvD (tSl rSlS te tl th) σ H (.str (cutS a lo hi)) := fun H1 e Q q =>
  h H1 e _ fun v H2 e2 i2 => h1 H2 (e.trans e2) _ fun H3 e3 => h2 H3 ((e.trans e2).trans e3) _ fun H4 e4 =>
    ⟨a, i2.s, sz_of hz, q _ H4 ((e2.trans e3).trans e4) (.str _)⟩
theorem eo_i {i : Int} (h : EvD te σ H (.int i)) : EvO (tPart te) σ H (some i) := fun H1 e _ q => h H1 e _ fun v H2 e2 iv => ⟨i, iv.i, q H2 e2⟩
/-- tests and truth values -/
theorem et_D {b : Bool} (h : EvD te σ H (.bool b)) : EvT (tTest te) σ H b := fun H1 e _ q => h H1 e _ fun v H2 e2 iv => ⟨b, iv.b, q H2 e2⟩
theorem et_DB {b : Bool} (h : EvD te σ H (.bool b)) : EvT (tB te) σ H b := fun H1 e _ q => h H1 e _ fun v H2 e2 iv => ⟨b, iv.b, q H2 e2⟩
theorem EvD.ev {b : Bool} (h : EvD te σ H (.bool b)) : Ev te σ H (.bl b) := fun H1 e _ q => h H1 e _ fun v H2 e2 iv => by rw [iv.b]; exact q H2 e2
theorem EvD.evI {b : Int} (h : EvD te σ H (.int b)) : Ev te σ H (.int b) := fun H1 e _ q => h H1 e _ fun v H2 e2 iv => by rw [iv.i]; exact q H2 e2
theorem EvD.evS {b : Str} (h : EvD te σ H (.str b)) : Ev te σ H (.str b) := fun H1 e _ q => h H1 e _ fun v H2 e2 iv => by rw [iv.s]; exact q H2 e2
theorem EvD.of_ev (h : Ev te σ H v) (iv : Im H v d) : EvD te σ H d := fun H1 e Q q => h H1 e Q fun H2 e2 => q v H2 e2 (iv.mono (e.trans e2))
theorem ed_and {a b : Bool} (h1 : EvD ta σ H (.bool a)) (h2 : a = true → EvD tb σ H (.bool b)) : EvD (tAndV ta tb) σ H (.bool (a && b)) := fun H1 e Q q => h1 H1 e _ fun v H2 e2 iv => ⟨a, iv.b, by
  cases a with
  | true =>
    show tb σ H2 Q
    exact h2 rfl H2 (e.trans e2) Q fun v H3 e3 => q v H3 (e2.trans e3)
  | false =>
    show Q (.bl false) H2
    exact q _ H2 e2 (.bl _)⟩
theorem ed_or {a b : Bool} (h1 : EvD ta σ H (.bool a)) (h2 : a = false → EvD tb σ H (.bool b)) : EvD (tOrV ta tb) σ H (.bool (a || b)) := fun H1 e Q q => h1 H1 e _ fun v H2 e2 iv => ⟨a, iv.b, by
  cases a with
  | true =>
    show Q (.bl true) H2
    exact q _ H2 e2 (.bl _)
  | false =>
    show tb σ H2 Q
    exact h2 rfl H2 (e.trans e2) Q fun v H3 e3 => q v H3 (e2.trans e3)⟩
theorem ed_not {a : Bool} (h1 : EvD ta σ H (.bool a)) : EvD (tNotV ta) σ H (.bool (!a)) := fun H1 e _ q => h1 H1 e _ fun v H2 e2 iv => ⟨a, iv.b, q _ H2 e2 (.bl _)⟩
theorem ed_if {b : Bool} (h : EvT t σ H b) (h1 : b = true → EvD ta σ H d) (h2 : b = false → EvD tb σ H d) : EvD (tIf t ta tb) σ H d := fun H1 e Q q => h H1 e _ fun H2 e2 => by
  cases b with
  | true =>
    show ta σ H2 Q
    exact h1 rfl H2 (e.trans e2) Q fun v H3 e3 => q v H3 (e2.trans e3)
  | false =>
    show tb σ H2 Q
    exact h2 rfl H2 (e.trans e2) Q fun v H3 e3 => q v H3 (e2.trans e3)
/-- a op b op c -/
theorem ed_chain {g g' : Int → Int → Bool} {i j k : Int} {tc : TE} (ha : EvD ta σ H (.int i)) (hb : EvD tb σ H (.int j)) (hc : EvD tc σ H (.int k)) :
    EvD (tChain (rI0 fun i j => .bl (g i j)) (rI0 fun i j => .bl (g' i j)) ta tb tc) σ H (.bool (g i j && g' j k)) := fun H1 e Q q =>
  ha H1 e _ fun x H2 e2 i2 => hb H2 (e.trans e2) _ fun y H3 e3 i3 => ⟨i, j, i2.i, i3.i, g i j, rfl, by
    cases c : g i j with
    | true =>
      rw [if_pos rfl]
      refine hc H3 ((e.trans e2).trans e3) _ fun z H4 e4 i4 => ⟨j, k, i3.i, i4.i, ?_⟩
      have h := q (.bl (g' j k)) H4 ((e2.trans e3).trans e4) (by rw [c]; exact .bl _)
      exact h
    | false =>
      rw [if_neg (by decide)]
      exact q (.bl false) H3 (e2.trans e3) (by rw [c]; exact .bl _)⟩
end
end Pd
set_option Elab.async false
set_option linter.all false
set_option maxRecDepth 100000
set_option maxHeartbeats 2000000
/-! Pd2: built-ins, texts, comprehensions, loops and calls over immutable data. -/
namespace Pd
open PySem L2 Evl
section
variable {K : PySem.W.Frag} {σ : L2.St} {H H' : Hp} {ta tb te tx tl to : TE} {t u : TT} {x y z v : V} {d d' e' : PyData} {ds es : List PyData}
/-! ### built-ins -/
theorem ed_cb {r : List V → Hp → VK → Prop} {ta : TA} (h : EvDs ta σ H ds) (hr : ∀ vs H1, Ex H H1 → Ims H1 vs ds → ∀ Q : VK, (∀ v H2, Ex H1 H2 → Im H2 v d → Q v H2) → r vs H1 Q) : EvD (tCB r ta) σ H d := fun H1 e Q q =>
  h H1 e _ fun vs H2 e2 i2 => hr vs H2 (e.trans e2) i2 Q fun v H3 e3 i3 => q v H3 (e2.trans e3) i3
theorem en_cb {r : List V → Hp → VK → Prop} {ta : TA} (h : EvDs ta σ H ds) (hr : ∀ vs H1, Ex H H1 → Ims H1 vs ds → ∀ Q : VK, (∀ p xs H2, H1 p = none → Ex H1 H2 → H2 p = some (.lst xs) → Ims H2 xs es → Q (.ref p) H2) → r vs H1 Q) : EvN (tCB r ta) σ H es := fun H1 e Q q =>
  h H1 e _ fun vs H2 e2 i2 => hr vs H2 (e.trans e2) i2 Q fun p xs H3 n3 e3 i3 i4 => q p xs H3 (fresh_back e2 n3) (e2.trans e3) i3 i4
theorem Ims.one {vs : List V} (h : Ims H vs [d]) : ∃ v, vs = [v] ∧ Im H v d := by
  cases h with
  | cons h1 h2 => cases h2; exact ⟨_, rfl, h1⟩
theorem Ims.two {vs : List V} (h : Ims H vs [d, d']) : ∃ v w, vs = [v, w] ∧ Im H v d ∧ Im H w d' := by
  cases h with
  | cons h1 h2 => cases h2 with | cons h2 h3 => cases h3; exact ⟨_, _, rfl, h1, h2⟩
theorem Ims.three {d3 : PyData} {vs : List V} (h : Ims H vs [d, d', d3]) : ∃ v w u, vs = [v, w, u] ∧ Im H v d ∧ Im H w d' ∧ Im H u d3 := by
  cases h with
  | cons h1 h2 => obtain ⟨w, u, rfl, a, b⟩ := h2.two; exact ⟨_, _, _, rfl, h1, a, b⟩
theorem ed_lenS {a : Str} (h : EvD ta σ H (.str a)) (hz : a.length ≤ 100000) : EvD (tCB (fun xs H Q => ∃ z, xs = [.str z] ∧ z.length ≤ sizeLine ∧ Q (.int z.length) H) (tCons ta tNil)) σ H (.int a.length) :=
  ed_cb (ea1 h ea0) fun vs H1 e i Q q => by
    obtain ⟨v, rfl, iv⟩ := i.one
    rw [iv.s]
    exact ⟨a, rfl, sz_of hz, q _ H1 (Ex.refl H1) (.int _)⟩
theorem ed_lenT (h : EvD ta σ H (.tuple ds)) : EvD (tCB (rLenS K) (tCons ta tNil)) σ H (.int ds.length) :=
  ed_cb (ea1 h ea0) fun vs H1 e i Q q => by
    obtain ⟨v, rfl, iv⟩ := i.one
    obtain ⟨p, xs, rfl, h1, h2⟩ := iv.t
    exact ⟨p, xs, rfl, .inr (SqT.of h1), q _ H1 (Ex.refl H1) (by rw [h2.length]; exact .int _)⟩
theorem ed_lenL (h : EvD ta σ H (.list ds)) : EvD (tCB (rLenS K) (tCons ta tNil)) σ H (.int ds.length) :=
  ed_cb (ea1 h ea0) fun vs H1 e i Q q => by
    obtain ⟨v, rfl, iv⟩ := i.one
    obtain ⟨p, xs, rfl, h1, h2⟩ := iv.l
    exact ⟨p, xs, rfl, .inl (SqL.of h1), q _ H1 (Ex.refl H1) (by rw [h2.length]; exact .int _)⟩
/-- the built-in type of data -/
def tyN : PyData → String
  | .none => "NoneType"
  | .bool _ => "bool"
  | .int _ => "int"
  | .str _ => "str"
  | .list _ => "list"
  | .tuple _ => "tuple"
  | .dict _ => "dict"
theorem Im.ty (h : Im H v d) : TyX K H v (.type (tyN d)) := by
  cases h with
  | non => exact .base .non
  | bl b => exact .base (.bl b)
  | int i => exact .base (.int i)
  | str s => exact .base (.str s)
  | lst h1 _ => exact .base (.lst h1)
  | tup h1 _ => exact .base (.tup h1)
theorem ed_isi {T : String} {b : Bool} (h : EvD ta σ H d) (hb : kitB (tyN d) T = some b) : EvD (tCB (rIsi K) (tCons ta (tCons (tC (.ty T)) tNil))) σ H (.bool b) := fun H1 e Q q =>
  h H1 e _ fun v H2 e2 iv => ⟨v, .ty T, .type (tyN d), .type T, b, rfl, .ty T, iv.ty, kit_ty hb, q _ H2 e2 (.bl b)⟩
theorem all_strs : ∀ bs : List Bool, bs.all id = bs.all (fun b => b) := fun _ => rfl
theorem ed_all {bs : List Bool} (h : EvD te σ H (.list (bs.map .bool))) : EvD (tCB (rAll K) (tCons te tNil)) σ H (.bool (bs.all id)) :=
  ed_cb (ea1 h ea0) fun vs H1 e i Q q => by
    obtain ⟨v, rfl, iv⟩ := i.one
    obtain ⟨p, xs, rfl, h1, h2⟩ := iv.l
    have ex := h2.bls; subst ex
    exact ⟨p, bs, rfl, SqL.of h1, q _ H1 (Ex.refl H1) (.bl _)⟩
theorem ed_any {bs : List Bool} (h : EvD te σ H (.list (bs.map .bool))) : EvD (tCB (rAny K) (tCons te tNil)) σ H (.bool (bs.any id)) :=
  ed_cb (ea1 h ea0) fun vs H1 e i Q q => by
    obtain ⟨v, rfl, iv⟩ := i.one
    obtain ⟨p, xs, rfl, h1, h2⟩ := iv.l
    have ex := h2.bls; subst ex
    exact ⟨p, bs, rfl, SqL.of h1, q _ H1 (Ex.refl H1) (.bl _)⟩
abbrev rTupOf (K : PySem.W.Frag) : List V → Hp → VK → Prop := fun xs H Q => ∃ p ys, xs = [.ref p] ∧ ((SqL K H p ys ∧ ∀ l, H l = none → Q (.ref l) (upd H l (.tup ys))) ∨ (SqT K H p ys ∧ Q (.ref p) H))
theorem ed_tupOf (h : EvD ta σ H (.list ds)) : EvD (tCB (rTupOf K) (tCons ta tNil)) σ H (.tuple ds) :=
  ed_cb (ea1 h ea0) fun vs H1 e i Q q => by
    obtain ⟨v, rfl, iv⟩ := i.one
    obtain ⟨p, xs, rfl, h1, h2⟩ := iv.l
    exact ⟨p, xs, rfl, .inl ⟨SqL.of h1, fun l hl => q _ _ (Ex.new hl) (.tup upd_same (h2.mono (Ex.new hl)))⟩⟩
abbrev rLstOf (K : PySem.W.Frag) : List V → Hp → VK → Prop := fun xs H Q => ∃ p ys, xs = [.ref p] ∧ (SqL K H p ys ∨ SqT K H p ys) ∧ ∀ l, H l = none → Q (.ref l) (upd H l (.lst ys))
theorem en_lstOfT (h : EvD ta σ H (.tuple ds)) : EvN (tCB (rLstOf K) (tCons ta tNil)) σ H ds :=
  en_cb (ea1 h ea0) fun vs H1 e i Q q => by
    obtain ⟨v, rfl, iv⟩ := i.one
    obtain ⟨p, xs, rfl, h1, h2⟩ := iv.t
    exact ⟨p, xs, rfl, .inr (SqT.of h1), fun l hl => q l _ _ hl (Ex.new hl) upd_same (h2.mono (Ex.new hl))⟩
/-! ### texts -/
abbrev rJoin (K : PySem.W.Frag) : V → List V → Hp → VK → Prop := fun x xs H Q => ∃ a p, ∃ ys : List Str, x = .str a ∧ xs = [.ref p] ∧ (SqL K H p (ys.map V.str) ∨ SqT K H p (ys.map V.str)) ∧
    (ys.map (·.length)).sum + ys.length * a.length ≤ 16777216 ∧ Q (.str (Txt.join a ys)) H
theorem ed_joinL {a : Str} {ys : List Str} (h : EvD to σ H (.str a)) (h2 : EvD te σ H (.list (ys.map .str))) (hz : (ys.map (·.length)).sum + ys.length * a.length ≤ 16777216) : EvD (tM1 (rJoin K) to te) σ H (.str (Txt.join a ys)) := fun H1 e Q q =>
  h H1 e _ fun v H2 e2 iv => ⟨⟨a, iv.s⟩, h2 H2 (e.trans e2) _ fun w H3 e3 iw => by
    obtain ⟨p, xs, rfl, g1, g2⟩ := iw.l
    have ex := g2.strs; subst ex
    exact ⟨a, p, ys, iv.s, rfl, .inl (SqL.of g1), hz, q _ H3 (e2.trans e3) (.str _)⟩⟩
theorem ed_joinT {a : Str} {ys : List Str} (h : EvD to σ H (.str a)) (h2 : EvD te σ H (.tuple (ys.map .str))) (hz : (ys.map (·.length)).sum + ys.length * a.length ≤ 16777216) : EvD (tM1 (rJoin K) to te) σ H (.str (Txt.join a ys)) := fun H1 e Q q =>
  h H1 e _ fun v H2 e2 iv => ⟨⟨a, iv.s⟩, h2 H2 (e.trans e2) _ fun w H3 e3 iw => by
    obtain ⟨p, xs, rfl, g1, g2⟩ := iw.t
    have ex := g2.strs; subst ex
    exact ⟨a, p, ys, iv.s, rfl, .inr (SqT.of g1), hz, q _ H3 (e2.trans e3) (.str _)⟩⟩
abbrev rSplit : V → List V → Hp → VK → Prop := fun x xs H Q => ∃ a b, x = .str a ∧ xs = [.str b] ∧ (b.length == 0) = false ∧ a.length + 2 ≤ sizeLine ∧ rNewStrs (Txt.split a b) H Q
theorem en_split {a b : Str} (h : EvD to σ H (.str a)) (h2 : EvD te σ H (.str b)) (hb : (b.length == 0) = false) (hz : a.length + 2 ≤ 100000) : EvN (tM1 rSplit to te) σ H ((Txt.split a b).map .str) := fun H1 e Q q =>
  h H1 e _ fun v H2 e2 iv => ⟨⟨a, iv.s⟩, h2 H2 (e.trans e2) _ fun w H3 e3 iw =>
    ⟨a, b, iv.s, by rw [iw.s], hb, sz_of hz, fun p hp => q p _ _ (fresh_back (e2.trans e3) hp) ((e2.trans e3).trans (Ex.new hp)) upd_same (Ims.ofStrs _)⟩⟩
abbrev rUpper : V → List V → Hp → VK → Prop := fun x xs H Q => ∃ a, x = .str a ∧ xs = [] ∧ a.length ≤ 5592405 ∧ Q (.str (Txt.upper a)) H
theorem ed_upper {a : Str} (h : EvD to σ H (.str a)) (hz : a.length ≤ 100000) : EvD (tM0 rUpper to) σ H (.str (Txt.upper a)) := fun H1 e Q q =>
  h H1 e _ fun v H2 e2 iv => ⟨⟨a, iv.s⟩, a, iv.s, rfl, by omega, q _ H2 e2 (.str _)⟩
/-! ### calls of pure defs -/
def SpP (dom : List PyData → Prop) (f : List PyData → PyData) : Sp := fun vs H Q _ => ∃ ds, Ims H vs ds ∧ dom ds ∧ ∀ v H', Ex H H' → Im H' v (f ds) → Q v H'
theorem ed_call {dom : List PyData → Prop} {f : List PyData → PyData} {E : XK} {ta : TA} (h : EvDs ta σ H ds) (hd : dom ds) : EvD (tCall (SpP dom f) [] E ta) σ H (f ds) := fun H1 e Q q =>
  h H1 e _ fun vs H2 e2 i2 => ⟨ds, by rw [List.append_nil]; exact i2, hd, fun v H3 e3 i3 => q v H3 (e2.trans e3) i3⟩
/-- by a relation of arguments and result -/
def SpQ (R : List PyData → PyData → Prop) : Sp := fun vs H Q _ => ∃ ds d, Ims H vs ds ∧ R ds d ∧ ∀ v H', Ex H H' → Im H' v d → Q v H'
theorem ed_callQ {R : List PyData → PyData → Prop} {E : XK} {ta : TA} (h : EvDs ta σ H ds) (hd : R ds d) : EvD (tCall (SpQ R) [] E ta) σ H d := fun H1 e Q q =>
  h H1 e _ fun vs H2 e2 i2 => ⟨ds, d, by rw [List.append_nil]; exact i2, hd, fun v H3 e3 i3 => q v H3 (e2.trans e3) i3⟩
theorem SpQ.len {R : List PyData → PyData → Prop} {n : Nat} (h : ∀ ds d, R ds d → ds.length = n) : ∀ vs H Q E, SpQ R vs H Q E → vs.length = n := fun vs H Q E ⟨ds, d, i, r, _⟩ => by rw [i.length]; exact h ds d r
/-- slices of data -/
theorem cutD_from (k : Nat) (ds : List PyData) : cutD ds (some (k : Int)) none = ds.drop k := by
  unfold cutD
  rw [HT.sIx_nat, HT.sIx_none]
  rcases Nat.le_total k ds.length with h | h
  · rw [Nat.min_eq_left h, List.take_of_length_le (by simp)]
  · rw [Nat.min_eq_right h]
    simp [List.drop_eq_nil_of_le h]
theorem cutD_to (k : Nat) (ds : List PyData) : cutD ds none (some (k : Int)) = ds.take k := by
  unfold cutD
  rw [HT.sIx_nat, HT.sIx_none, List.drop_zero, Nat.sub_zero]
  rcases Nat.le_total k ds.length with h | h
  · rw [Nat.min_eq_left h]
  · rw [Nat.min_eq_right h, List.take_of_length_le (Nat.le_refl _), List.take_of_length_le h]
theorem cutD_init (ds : List PyData) : cutD ds none (some (-1)) = ds.dropLast := by
  unfold cutD
  have e : HT.sIx ds.length ds.length (some (-1)) = ds.length - 1 := by
    show (if (-1 : Int) < 0 then ((-1 : Int) + (ds.length : Int)).toNat else min (-1 : Int).toNat ds.length) = ds.length - 1
    rw [if_pos (by omega)]
    omega
  rw [e, HT.sIx_none, List.drop_zero, Nat.sub_zero, List.dropLast_eq_take]
/-- shapes -/
theorem shaped_strs {ss : List Str} (h : ∀ w ∈ ss, PyData.strOk w = true) : SeqAt.shaped (.tuple (ss.map .str)) = true := by
  have c : ∀ l : List Str, (∀ w ∈ l, PyData.strOk w = true) → PyData.canLayAll0 (l.map .str) = true ∧ PyData.depthAll (l.map .str) = 0 := by
    intro l
    induction l with
    | nil => intro _; exact ⟨by simp [PyData.canLayAll0], by simp [PyData.depthAll]⟩
    | cons a l ih =>
      intro hl
      obtain ⟨i1, i2⟩ := ih fun w hw => hl w (List.mem_cons_of_mem _ hw)
      have ha := hl a (List.mem_cons_self ..)
      exact ⟨by simp [PyData.canLayAll0, PyData.canLay0, ha, i1], by simp [PyData.depthAll, PyData.depth, i2]⟩
  obtain ⟨c1, c2⟩ := c ss h
  unfold SeqAt.shaped
  simp [PyData.canLay0, PyData.depth, c1, c2]
theorem shaped_rows {sss : List (List Str)} (h : ∀ ss ∈ sss, ∀ w ∈ ss, PyData.strOk w = true) : SeqAt.shaped (.tuple (sss.map fun ss => .tuple (ss.map .str))) = true := by
  have c : ∀ l : List (List Str), (∀ ss ∈ l, ∀ w ∈ ss, PyData.strOk w = true) → PyData.canLayAll0 (l.map fun ss => .tuple (ss.map .str)) = true ∧ PyData.depthAll (l.map fun ss => .tuple (ss.map .str)) ≤ 63 := by
    intro l
    induction l with
    | nil => intro _; exact ⟨by simp [PyData.canLayAll0], by simp [PyData.depthAll]⟩
    | cons a l ih =>
      intro hl
      obtain ⟨i1, i2⟩ := ih fun w hw => hl w (List.mem_cons_of_mem _ hw)
      have ha := shaped_strs (hl a (List.mem_cons_self ..))
      unfold SeqAt.shaped at ha
      simp only [Bool.and_eq_true, decide_eq_true_eq] at ha
      have hd : PyData.depth (.tuple (a.map .str)) ≤ 63 := by
        have z : ∀ m : List Str, PyData.depthAll (m.map .str) = 0 := by
          intro m
          induction m with
          | nil => simp [PyData.depthAll]
          | cons b m ih2 => simp [PyData.depthAll, PyData.depth, ih2]
        simp [PyData.depth, z a]
      refine ⟨by simp only [List.map_cons, PyData.canLayAll0, ha.1, i1, Bool.and_self], ?_⟩
      simp only [List.map_cons, PyData.depthAll]
      omega
  obtain ⟨c1, c2⟩ := c sss h
  unfold SeqAt.shaped
  have e : decide (PyData.depth (.tuple (sss.map fun ss => .tuple (ss.map .str))) ≤ 64) = true := by
    rw [decide_eq_true_eq]
    show PyData.depthAll (sss.map fun ss => .tuple (ss.map .str)) + 1 ≤ 64
    omega
  rw [e]
  show (PyData.canLayAll0 (sss.map fun ss => .tuple (ss.map .str)) && true) = true
  rw [c1]; rfl
theorem eqv_nil (ds : List PyData) : PyData.eqv (.tuple ds) (.tuple []) = ds.isEmpty := by
  cases ds <;> simp [PyData.eqv, PyData.eqvAll]
theorem shaped_nil : SeqAt.shaped (.tuple []) = true := by decide
/-! ### what is walked -/
/-- wi walks data src -/
def Wk (wi : TI) (σ : L2.St) (H : Hp) (src : List PyData) : Prop := ∀ H1, Ex H H1 → ∀ R : It → Hp → Prop,
  (∀ J H2 G Y, Ex H1 H2 → Walk J src.length G Y → (∀ H3, Ex H2 H3 → G H3) → (∀ i H3 x H4, Ex H2 H3 → Y i H3 x H4 → Ex H3 H4 ∧ ∃ d, src[i]? = some d ∧ Im H4 x d) → R J H2) → wi σ H1 R
theorem Wk.mono {wi : TI} {src : List PyData} (e : Ex H H') (h : Wk wi σ H src) : Wk wi σ H' src := fun H1 a R r => h H1 (e.trans a) R r
theorem wk_tup (h : EvD tl σ H (.tuple ds)) : Wk (iTup K tl) σ H ds := fun H1 e R r =>
  h H1 e _ fun v H2 e2 iv => by
    obtain ⟨p, xs, rfl, g1, g2⟩ := iv.t
    refine ⟨p, rfl, ⟨xs, SqT.of g1⟩, r _ H2 (fun H => SqT K H p xs) (YAt xs) e2 (by rw [← g2.length]; exact walk_tup) (fun H3 e3 => SqT.of (e3 _ _ g1)) fun i H3 x H4 e3 yy => ?_⟩
    obtain ⟨rfl, hx⟩ := yy
    obtain ⟨d, hd, im⟩ := (g2.mono e3).get hx
    exact ⟨Ex.refl _, d, hd, im⟩
theorem wk_list (h : EvD tl σ H (.list ds)) : Wk (iList K tl) σ H ds := fun H1 e R r =>
  h H1 e _ fun v H2 e2 iv => by
    obtain ⟨p, xs, rfl, g1, g2⟩ := iv.l
    refine ⟨p, rfl, ⟨xs, SqL.of g1⟩, r _ H2 (fun H => SqL K H p xs) (YAt xs) e2 (by rw [← g2.length]; exact walk_list) (fun H3 e3 => SqL.of (e3 _ _ g1)) fun i H3 x H4 e3 yy => ?_⟩
    obtain ⟨rfl, hx⟩ := yy
    obtain ⟨d, hd, im⟩ := (g2.mono e3).get hx
    exact ⟨Ex.refl _, d, hd, im⟩
/-- a text's signs -/
def signs (z : Str) : List PyData := z.cps.toList.map fun c => .str ⟨#[c]⟩
theorem wk_str {z : Str} (h : EvD tl σ H (.str z)) : Wk (iStr tl) σ H (signs z) := fun H1 e R r =>
  h H1 e _ fun v H2 e2 iv => by
    refine ⟨z, iv.s, r _ H2 (fun _ => True) (fun i H v H' => H' = H ∧ ∃ c, z.cps[i]? = some c ∧ v = .str ⟨#[c]⟩) e2 (by
      have : (signs z).length = z.cps.size := by simp [signs]
      rw [this]; exact walk_str) (fun _ _ => trivial) fun i H3 x H4 e3 yy => ?_⟩
    obtain ⟨rfl, c, hc, rfl⟩ := yy
    refine ⟨Ex.refl _, .str ⟨#[c]⟩, ?_, .str _⟩
    unfold signs
    rw [List.getElem?_map]
    have : z.cps.toList[i]? = some c := by simpa using hc
    rw [this]; rfl
theorem zip_get {α β : Type} : ∀ {xs : List α} {ys : List β} {i : Nat} {x : α} {y : β}, xs[i]? = some x → ys[i]? = some y → (xs.zip ys)[i]? = some (x, y)
  | [], _, _, _, _, h, _ => by simp at h
  | _ :: _, [], _, _, _, _, h => by simp at h
  | x :: xs, y :: ys, 0, _, _, h1, h2 => by simp at h1 h2; subst h1; subst h2; rfl
  | x :: xs, y :: ys, i + 1, _, _, h1, h2 => by simp at h1 h2; simpa using zip_get h1 h2
def pairs (ds es : List PyData) : List PyData := (ds.zip es).map fun p => .tuple [p.1, p.2]
theorem wk_zipT {ta : TA} (h : EvDs ta σ H [.tuple ds, .tuple es]) : Wk (RZ.iZipA K ta) σ H (pairs ds es) := fun H1 e R r =>
  h H1 e _ fun vs H2 e2 iv => by
    obtain ⟨v, w, rfl, i1, i2⟩ := iv.two
    obtain ⟨p, xs, rfl, g1, g2⟩ := i1.t
    obtain ⟨p', xs', rfl, g1', g2'⟩ := i2.t
    refine ⟨p, p', xs, xs', rfl, .inr ⟨SqT.of g1, SqT.of g1', r _ H2 (fun H => SqT K H p xs ∧ SqT K H p' xs') (YPair (fun i => xs[i]?) (fun i => xs'[i]?)) e2 ?_ (fun H3 e3 => ⟨SqT.of (e3 _ _ g1), SqT.of (e3 _ _ g1')⟩) fun i H3 x H4 e3 yy => ?_⟩⟩
    · have hn : (pairs ds es).length = min xs.length xs'.length := by simp [pairs, g2.length, g2'.length]
      rw [hn]
      refine ⟨fun i _ hi q => ?_, fun _ q => ⟨xs, xs', q.1, q.2, by omega⟩, fun i H v H' _ q y => ?_⟩
      · have h1 : i < xs.length := by omega
        have h2 : i < xs'.length := by omega
        exact ⟨xs, xs', xs[i], xs'[i], q.1, q.2, by simp [h1], by simp [h2]⟩
      · obtain ⟨T, x, z, h1, h2, h3, h4, h5⟩ := y
        exact ⟨T, x, z, h1, h2, h3, h4 xs q.1, h5 xs' q.2⟩
    · obtain ⟨T, a, b, rfl, hT, rfl, ha, hb⟩ := yy
      obtain ⟨d1, hd1, im1⟩ := (g2.mono e3).get ha
      obtain ⟨d2, hd2, im2⟩ := (g2'.mono e3).get hb
      refine ⟨Ex.new hT, .tuple [d1, d2], ?_, .tup upd_same (.cons (im1.mono (Ex.new hT)) (.cons (im2.mono (Ex.new hT)) .nil))⟩
      unfold pairs
      rw [List.getElem?_map, zip_get hd1 hd2] <;> rfl
theorem wk_zipL {ta : TA} (h : EvDs ta σ H [.list ds, .list es]) : Wk (RZ.iZipA K ta) σ H (pairs ds es) := fun H1 e R r =>
  h H1 e _ fun vs H2 e2 iv => by
    obtain ⟨v, w, rfl, i1, i2⟩ := iv.two
    obtain ⟨p, xs, rfl, g1, g2⟩ := i1.l
    obtain ⟨p', xs', rfl, g1', g2'⟩ := i2.l
    refine ⟨p, p', xs, xs', rfl, .inl ⟨SqL.of g1, SqL.of g1', r _ H2 (fun H => SqL K H p xs ∧ SqL K H p' xs') (YPair (fun i => xs[i]?) (fun i => xs'[i]?)) e2 ?_ (fun H3 e3 => ⟨SqL.of (e3 _ _ g1), SqL.of (e3 _ _ g1')⟩) fun i H3 x H4 e3 yy => ?_⟩⟩
    · have hn : (pairs ds es).length = min xs.length xs'.length := by simp [pairs, g2.length, g2'.length]
      exact walk_zip hn
    · obtain ⟨T, a, b, rfl, hT, rfl, ha, hb⟩ := yy
      obtain ⟨d1, hd1, im1⟩ := (g2.mono e3).get ha
      obtain ⟨d2, hd2, im2⟩ := (g2'.mono e3).get hb
      refine ⟨Ex.new hT, .tuple [d1, d2], ?_, .tup upd_same (.cons (im1.mono (Ex.new hT)) (.cons (im2.mono (Ex.new hT)) .nil))⟩
      unfold pairs
      rw [List.getElem?_map, zip_get hd1 hd2] <;> rfl
/-- enumerate -/
def numbered : Nat → List PyData → List PyData
  | _, [] => []
  | n, d :: ds => .tuple [.int (n : Nat), d] :: numbered (n + 1) ds
theorem numbered_length : ∀ (ds : List PyData) (n : Nat), (numbered n ds).length = ds.length
  | [], _ => rfl
  | d :: ds, n => by simp [numbered, numbered_length ds]
theorem numbered_get : ∀ (ds : List PyData) (n i : Nat) (d : PyData), ds[i]? = some d → (numbered n ds)[i]? = some (.tuple [.int ((n + i : Nat) : Int), d])
  | [], _, _, _, h => by simp at h
  | d :: ds, n, 0, _, h => by simp at h; subst h; simp [numbered]
  | d :: ds, n, i + 1, e, h => by
    have ih := numbered_get ds (n + 1) i e (by simpa using h)
    simp only [numbered, List.getElem?_cons_succ, ih]
    have : n + 1 + i = n + (i + 1) := by omega
    rw [this]
theorem wk_enumL {ta : TA} (h : EvDs ta σ H [.list ds]) : Wk (iEnum K ta) σ H (numbered 0 ds) := fun H1 e R r =>
  h H1 e _ fun vs H2 e2 iv => by
    obtain ⟨v, rfl, i1⟩ := iv.one
    obtain ⟨p, xs, rfl, g1, g2⟩ := i1.l
    refine ⟨p, xs, rfl, SqL.of g1, r _ H2 (fun H => SqL K H p xs) (YPair (fun i => some (.int (i : Nat))) (fun i => xs[i]?)) e2 (by rw [numbered_length, ← g2.length]; exact walk_enum) (fun H3 e3 => SqL.of (e3 _ _ g1)) fun i H3 x H4 e3 yy => ?_⟩
    obtain ⟨T, a, b, rfl, hT, rfl, ha, hb⟩ := yy
    obtain ⟨d2, hd2, im2⟩ := (g2.mono e3).get hb
    have ea : a = .int (i : Nat) := (Option.some.inj ha).symm
    subst ea
    refine ⟨Ex.new hT, .tuple [.int (i : Nat), d2], ?_, .tup upd_same (.cons (.int _) (.cons (im2.mono (Ex.new hT)) .nil))⟩
    have := numbered_get ds 0 i d2 hd2
    rw [Nat.zero_add] at this
    exact this
/-! ### comprehensions -/
theorem tx_lst {D : Addr} {acc ys : List V} (h : H D = some (.lst acc)) : Tx H (upd H D (.lst ys)) := fun a xs ha => by
  rw [upd_ne (fun z => by subst z; rw [h] at ha; cases ha)]
  exact ha
theorem stills_of {α : Type} {f : α → PyData} : ∀ {l : List α}, (∀ d ∈ l, still (f d) = true) → stills (l.map f) = true
  | [], _ => rfl
  | d :: l, h => by
    show (still (f d) && stills (l.map f)) = true
    rw [h d (List.mem_cons_self ..), stills_of fun e he => h e (List.mem_cons_of_mem _ he)]
    rfl
theorem take_more {α : Type} : ∀ {l : List α} {i : Nat} {x : α}, l[i]? = some x → l.take (i + 1) = l.take i ++ [x]
  | [], i, x, h => by simp at h
  | a :: l, 0, x, h => by simp at h; subst h; rfl
  | a :: l, i + 1, x, h => by
    have ih := take_more (l := l) (i := i) (x := x) (by simpa using h)
    show a :: l.take (i + 1) = a :: l.take i ++ [x]
    rw [ih]; rfl
/-- a comprehension over data that comes from a list l of things: what each thing gives -/
theorem en_lcG {α : Type} {wi : TI} {g : TG} {tt : TT} {vs : List Nat} {l : List α} {emb : α → PyData} (f : α → PyData) (c : α → Bool) (hk : Wk wi σ H (l.map emb)) (hz : l.length ≤ 40000)
    (hb : ∀ d, d ∈ l → ∀ x H1, Ex H H1 → Im H1 x (emb d) → ∀ K' : L2.St → Hp → Prop, (∀ σ2, wipe σ2 vs = wipe σ vs → EvT tt σ2 H1 (c d) → (c d = true → EvD te σ2 H1 (f d)) → K' σ2 H1) → g x (wipe σ vs) H1 K')
    (hs : ∀ d ∈ l, c d = true → still (f d) = true) : EvN (tLc wi g tt te vs) σ H ((l.filter c).map f) := fun H0 e0 Q q =>
  hk H0 e0 _ fun J H2 G Y e2 W hG hY D hD => by
    have still_take : ∀ i, stills (((l.take i).filter c).map f) = true := fun i => by
      have key : ∀ m : List α, (∀ d ∈ m, c d = true → still (f d) = true) → stills ((m.filter c).map f) = true := by
        intro m
        induction m with
        | nil => intro _; rfl
        | cons d m ih =>
          intro hm
          have ih' := ih fun e he => hm e (List.mem_cons_of_mem _ he)
          cases hc : c d with
          | true =>
            rw [List.filter_cons_of_pos hc]
            show (still (f d) && stills ((m.filter c).map f)) = true
            rw [hm d (List.mem_cons_self ..) hc, ih']; rfl
          | false => rw [List.filter_cons_of_neg (by rw [hc]; decide)]; exact ih'
      exact key _ fun d hd hc => hs d (List.mem_of_mem_take hd) hc
    rw [List.length_map] at W
    refine lc_it W (fun i H' => Ex H2 H' ∧ ∃ acc, H' D = some (.lst acc) ∧ acc.length ≤ i ∧ Ims H' acc (((l.take i).filter c).map f))
      ⟨Ex.new hD, [], upd_same, Nat.le_refl _, .nil⟩ (fun i H' _ p => hG H' p.1) (fun i x H3 H4 hi p y => ?_) fun H' p => ?_
    · obtain ⟨p1, acc, p2, p4, p3⟩ := p
      obtain ⟨e34, d0, hd0, im⟩ := hY i H3 x H4 p1 y
      rw [List.getElem?_map] at hd0
      obtain ⟨d, hd, rfl⟩ : ∃ d, l[i]? = some d ∧ emb d = d0 := by
        cases e : l[i]? with
        | none => rw [e] at hd0; cases hd0
        | some d => rw [e] at hd0; exact ⟨d, rfl, Option.some.inj hd0⟩
      have hm : d ∈ l := List.mem_of_getElem? hd
      refine hb d hm x H4 ((e0.trans e2).trans (p1.trans e34)) im _ fun σ2 hσ hT hE => ⟨hσ, ?_⟩
      refine hT H4 (Ex.refl H4) _ fun H5 e45 => ?_
      have more := take_more hd
      cases hc : c d with
      | true =>
        show te σ2 H5 _
        refine hE hc H5 e45 _ fun v H6 e56 iv => ⟨acc, ((e34.trans e45).trans e56) D _ p2, sz_lt (by omega), Ex.mut (((p1.trans e34).trans e45).trans e56) hD, acc ++ [v], upd_same, by rw [List.length_append, List.length_singleton]; omega, ?_⟩
        have hacc := ((e34.trans e45).trans e56) D _ p2
        have t6 : Tx H6 (upd H6 D (.lst (acc ++ [v]))) := tx_lst hacc
        rw [more, List.filter_append, List.map_append]
        have ef : List.filter c [d] = [d] := by simp [hc]
        rw [ef]
        exact Ims.append ((p3.mono ((e34.trans e45).trans e56)).tx t6 (still_take i)) (.cons (iv.tx t6 (hs d hm hc)) .nil)
      | false =>
        show Ex H2 H5 ∧ _
        refine ⟨(p1.trans e34).trans e45, acc, (e34.trans e45) D _ p2, by omega, ?_⟩
        rw [more, List.filter_append]
        have ef : List.filter c [d] = [] := by simp [hc]
        rw [ef, List.append_nil]
        exact p3.mono (e34.trans e45)
    · obtain ⟨p1, acc, p2, _, p3⟩ := p
      rw [List.take_length] at p3
      exact q D acc H' (fresh_back e2 hD) (e2.trans p1) p2 p3
/-- the target a name -/
theorem en_lc {α : Type} {wi : TI} {tt : TT} {j : Nat} {vs : List Nat} {l : List α} {emb : α → PyData} (f : α → PyData) (c : α → Bool) (hk : Wk wi σ H (l.map emb)) (hz : l.length ≤ 40000)
    (hb : ∀ d, d ∈ l → ∀ x H1, Ex H H1 → Im H1 x (emb d) → EvT tt ((wipe σ vs).set j (some x)) H1 (c d) ∧ (c d = true → EvD te ((wipe σ vs).set j (some x)) H1 (f d)))
    (hs : ∀ d ∈ l, c d = true → still (f d) = true) (hw : ∀ x, wipe ((wipe σ vs).set j (some x)) vs = wipe σ vs := by intro x; rfl) : EvN (tLc wi (gName j) tt te vs) σ H ((l.filter c).map f) :=
  en_lcG f c hk hz (fun d hd x H1 e im K' k => k _ (hw x) (hb d hd x H1 e im).1 (hb d hd x H1 e im).2) hs
theorem et_yes : EvT tYes σ H true := fun H1 _ _ q => q H1 (Ex.refl H1)
/-- .. without a test -/
theorem en_lcM {α : Type} {wi : TI} {j : Nat} {vs : List Nat} {l : List α} {emb : α → PyData} (f : α → PyData) (hk : Wk wi σ H (l.map emb)) (hz : l.length ≤ 40000)
    (hb : ∀ d, d ∈ l → ∀ x H1, Ex H H1 → Im H1 x (emb d) → EvD te ((wipe σ vs).set j (some x)) H1 (f d))
    (hs : ∀ d ∈ l, still (f d) = true) (hw : ∀ x, wipe ((wipe σ vs).set j (some x)) vs = wipe σ vs := by intro x; rfl) : EvN (tLc wi (gName j) tYes te vs) σ H (l.map f) := by
  have h := en_lc (tt := tYes) (α := α) f (fun _ => true) hk hz (fun d hd x H1 e im => ⟨et_yes, fun _ => hb d hd x H1 e im⟩) (fun d hd _ => hs d hd) hw
  rw [List.filter_eq_self.mpr (fun _ _ => rfl)] at h
  exact h
/-- the target a pair of names -/
theorem en_lcP {α : Type} {wi : TI} {i j : Nat} {vs : List Nat} {l : List α} {e1 e2 : α → PyData} (f : α → PyData) (hk : Wk wi σ H (l.map fun a => .tuple [e1 a, e2 a])) (hz : l.length ≤ 40000)
    (hb : ∀ d, d ∈ l → ∀ x y H1, Ex H H1 → Im H1 x (e1 d) → Im H1 y (e2 d) → EvD te (((wipe σ vs).set i (some x)).set j (some y)) H1 (f d))
    (hs : ∀ d ∈ l, still (f d) = true) (hw : ∀ x y, wipe (((wipe σ vs).set i (some x)).set j (some y)) vs = wipe σ vs := by intro x y; rfl) : EvN (tLc wi (gTup K 2 (gCons (gName i) (gCons (gName j) gNil))) tYes te vs) σ H (l.map f) := by
  have h := en_lcG (te := te) (α := α) (g := gTup K 2 (gCons (gName i) (gCons (gName j) gNil))) (tt := tYes) (vs := vs) f (fun _ => true) hk hz (fun d hd x H1 e im K' k => by
    obtain ⟨p, xs, rfl, g1, g2⟩ := im.t
    obtain ⟨a, b, rfl, ia, ib⟩ := g2.two
    refine ⟨p, [a, b], rfl, SqT.of g1, rfl, a, [b], rfl, b, [], rfl, rfl, ?_⟩
    exact k _ (hw a b) et_yes fun _ => hb d hd a b H1 e ia ib) (fun d hd _ => hs d hd)
  rw [List.filter_eq_self.mpr (fun _ _ => rfl)] at h
  exact h
theorem pairs_map {α β : Type} (e1 : α → PyData) (e2 : β → PyData) : ∀ (l : List α) (m : List β), pairs (l.map e1) (m.map e2) = (l.zip m).map fun p => .tuple [e1 p.1, e2 p.2]
  | [], _ => rfl
  | _ :: _, [] => rfl
  | a :: l, b :: m => by
    have ih := pairs_map e1 e2 l m
    unfold pairs at ih ⊢
    simp only [List.map_cons, List.zip_cons_cons, ih]
/-- a text's signs -/
theorem en_lcS {j : Nat} {vs : List Nat} {z : Str} (f : Nat → PyData) (h : EvD tl σ H (.str z)) (hz : z.length ≤ 40000)
    (hb : ∀ c, c ∈ z.cps.toList → ∀ H1, Ex H H1 → EvD te ((wipe σ vs).set j (some (.str ⟨#[c]⟩))) H1 (f c))
    (hs : ∀ d ∈ z.cps.toList, still (f d) = true) (hw : ∀ x, wipe ((wipe σ vs).set j (some x)) vs = wipe σ vs := by intro x; rfl) : EvN (tLc (iStr tl) (gName j) tYes te vs) σ H (z.cps.toList.map f) :=
  en_lcM (l := z.cps.toList) (emb := fun c => .str ⟨#[c]⟩) f (wk_str h) (by simpa [Str.length] using hz) (fun c hc x H1 e im => by rw [im.s]; exact hb c hc H1 e) hs hw
/-! ### statements -/
variable {D : Ends} {tu tw tz : TS} {g : TG}
theorem s_asgD {i : Nat} (h : EvD te σ H d) (k : ∀ v H1, Ex H H1 → Im H1 v d → D.nx (σ.set i (some v)) H1) : tAsg te (gName i) D σ H := h H (Ex.refl H) _ fun v H1 e iv => k v H1 e iv
theorem q_asgD {i : Nat} (h : EvD te σ H d) (k : ∀ v H1, Ex H H1 → Im H1 v d → tz D (σ.set i (some v)) H1) : tSeq (tAsg te (gName i)) tz D σ H := s_asgD (D := { D with nx := tz D }) h k
theorem q_asgN {i : Nat} (h : EvN te σ H ds) (k : ∀ p xs H1, H p = none → Ex H H1 → H1 p = some (.lst xs) → Ims H1 xs ds → tz D (σ.set i (some (.ref p))) H1) : tSeq (tAsg te (gName i)) tz D σ H := h H (Ex.refl H) _ fun p xs H1 n e a b => k p xs H1 n e a b
theorem s_retD (h : EvD te σ H d) (k : ∀ v H1, Ex H H1 → Im H1 v d → D.rt v H1) : tRet te D σ H := h H (Ex.refl H) _ fun v H1 e iv => k v H1 e iv
/-- xs.append(e) of still data -/
theorem s_appD {l : Addr} {xs : List V} (hl : H l = some (.lst xs)) (ha : Ev ta σ H (.ref l)) (h : EvD te σ H d) (hs : still d = true) (hz : xs.length < 100000) (k : ∀ v H1, Ex H H1 → H1 l = some (.lst xs) → Im (upd H1 l (.lst (xs ++ [v]))) v d → D.nx σ (upd H1 l (.lst (xs ++ [v])))) :
    tDrop (tBM K "list" rAppend ta (tCons te tNil)) D σ H := ha H (Ex.refl H) _ fun H1 e1 =>
  ⟨Or.inl ⟨rfl, xs, sq_of (e1 l _ hl)⟩, h H1 e1 _ fun v H2 e2 iv => ⟨l, xs, v, rfl, rfl, e2 l _ (e1 l _ hl), sz_lt hz, k v H2 (e1.trans e2) (e2 l _ (e1 l _ hl)) (iv.tx (tx_lst (e2 l _ (e1 l _ hl))) hs)⟩⟩
/-! ### frames: what a part of a program may change -/
/-- all but the objects at M is as it was; the tuples stay -/
def ExM (M : List Addr) (H H' : Hp) : Prop := (∀ a o, a ∉ M → H a = some o → H' a = some o) ∧ Tx H H'
theorem ExM.refl (M : List Addr) (H : Hp) : ExM M H H := ⟨fun _ _ _ h => h, Tx.refl H⟩
theorem ExM.trans {M : List Addr} {H H1 H2 : Hp} (a : ExM M H H1) (b : ExM M H1 H2) : ExM M H H2 := ⟨fun x o n h => b.1 x o n (a.1 x o n h), a.2.trans b.2⟩
theorem ExM.of {M : List Addr} {H H' : Hp} (e : Ex H H') : ExM M H H' := ⟨fun a o _ h => e a o h, Tx.of e⟩
theorem ExM.upd {M : List Addr} {H : Hp} {l : Addr} {xs ys : List V} (hl : H l = some (.lst xs)) (hm : l ∈ M) : ExM M H (upd H l (.lst ys)) :=
  ⟨fun a o n h => by rw [upd_ne (fun z => n (by rw [z]; exact hm))]; exact h, tx_lst hl⟩
theorem ExM.weak {M M' : List Addr} {H H' : Hp} (e : ExM M H H') (h : ∀ a ∈ M, a ∈ M') : ExM M' H H' := ⟨fun a o n q => e.1 a o (fun z => n (h a z)) q, e.2⟩
theorem ExM.ex {H H' : Hp} (e : ExM [] H H') : Ex H H' := fun a o h => e.1 a o (by simp) h
/-- a fresh object may change: it is no part of what is kept -/
theorem ExM.ex_of {M : List Addr} {H0 H H' : Hp} (e0 : Ex H0 H) (hM : ∀ a ∈ M, H0 a = none) (e : ExM M H H') : Ex H0 H' := fun a o h =>
  e.1 a o (fun z => by rw [hM a z] at h; cases h) (e0 a o h)
theorem Im.m {M : List Addr} (e : ExM M H H') (s : still d = true) (h : Im H v d) : Im H' v d := h.tx e.2 s
/-- wi walks data src while all but M stays -/
def WkM (M : List Addr) (wi : TI) (σ : L2.St) (H : Hp) (src : List PyData) : Prop := ∀ H1, Ex H H1 → ∀ R : It → Hp → Prop,
  (∀ J H2 G Y, Ex H1 H2 → Walk J src.length G Y → (∀ H3, ExM M H2 H3 → G H3) → (∀ i H3 x H4, ExM M H2 H3 → Y i H3 x H4 → Ex H3 H4 ∧ ∃ d, src[i]? = some d ∧ Im H4 x d) → R J H2) → wi σ H1 R
theorem wm_tup {M : List Addr} (h : EvD tl σ H (.tuple ds)) (hs : stills ds = true) : WkM M (iTup K tl) σ H ds := fun H1 e R r =>
  h H1 e _ fun v H2 e2 iv => by
    obtain ⟨p, xs, rfl, g1, g2⟩ := iv.t
    refine ⟨p, rfl, ⟨xs, SqT.of g1⟩, r _ H2 (fun H => SqT K H p xs) (YAt xs) e2 (by rw [← g2.length]; exact walk_tup) (fun H3 e3 => SqT.of (e3.2 _ _ g1)) fun i H3 x H4 e3 yy => ?_⟩
    obtain ⟨rfl, hx⟩ := yy
    obtain ⟨d, hd, im⟩ := (g2.tx e3.2 hs).get hx
    exact ⟨Ex.refl _, d, hd, im⟩
/-- over a new list -/
theorem wm_new {M : List Addr} (h : EvN tl σ H ds) (hM : ∀ a ∈ M, H a ≠ none) (hs : stills ds = true) : WkM M (iList K tl) σ H ds := fun H1 e R r =>
  h H1 e _ fun p xs H2 n2 e2 g1 g2 => by
    have hp : p ∉ M := fun z => hM p z (fresh_back e n2)
    refine ⟨p, rfl, ⟨xs, SqL.of g1⟩, r _ H2 (fun H => SqL K H p xs) (YAt xs) e2 (by rw [← g2.length]; exact walk_list) (fun H3 e3 => SqL.of (e3.1 _ _ hp g1)) fun i H3 x H4 e3 yy => ?_⟩
    obtain ⟨rfl, hx⟩ := yy
    obtain ⟨d, hd, im⟩ := (g2.tx e3.2 hs).get hx
    exact ⟨Ex.refl _, d, hd, im⟩
/-- over a list at p -/
theorem wm_at {M : List Addr} {p : Addr} {xs : List V} (h : Ev tl σ H (.ref p)) (g1 : H p = some (.lst xs)) (g2 : Ims H xs ds) (hp : p ∉ M) (hs : stills ds = true) : WkM M (iList K tl) σ H ds := fun H1 e R r =>
  h H1 e _ fun H2 e2 => by
    have g1 := (e.trans e2) _ _ g1
    have g2 := g2.mono (e.trans e2)
    refine ⟨p, rfl, ⟨xs, SqL.of g1⟩, r _ H2 (fun H => SqL K H p xs) (YAt xs) e2 (by rw [← g2.length]; exact walk_list) (fun H3 e3 => SqL.of (e3.1 _ _ hp g1)) fun i H3 x H4 e3 yy => ?_⟩
    obtain ⟨rfl, hx⟩ := yy
    obtain ⟨d, hd, im⟩ := (g2.tx e3.2 hs).get hx
    exact ⟨Ex.refl _, d, hd, im⟩
theorem wm_enumAt {M : List Addr} {p : Addr} {xs : List V} (h : Ev tl σ H (.ref p)) (g1 : H p = some (.lst xs)) (g2 : Ims H xs ds) (hp : p ∉ M) (hs : stills ds = true) : WkM M (iEnum K (tCons tl tNil)) σ H (numbered 0 ds) := fun H1 e R r =>
  h H1 e _ fun H2 e2 => by
    have g1 := (e.trans e2) _ _ g1
    have g2 := g2.mono (e.trans e2)
    refine ⟨p, xs, rfl, SqL.of g1, r _ H2 (fun H => SqL K H p xs) (YPair (fun i => some (.int (i : Nat))) (fun i => xs[i]?)) e2 (by rw [numbered_length, ← g2.length]; exact walk_enum) (fun H3 e3 => SqL.of (e3.1 _ _ hp g1)) fun i H3 x H4 e3 yy => ?_⟩
    obtain ⟨T, a, b, rfl, hT, rfl, ha, hb⟩ := yy
    obtain ⟨d2, hd2, im2⟩ := (g2.tx e3.2 hs).get hb
    have ea : a = .int (i : Nat) := (Option.some.inj ha).symm
    subst ea
    refine ⟨Ex.new hT, .tuple [.int (i : Nat), d2], ?_, .tup upd_same (.cons (.int _) (.cons (im2.mono (Ex.new hT)) .nil))⟩
    have := numbered_get ds 0 i d2 hd2
    rw [Nat.zero_add] at this
    exact this
theorem wm_enumNew {M : List Addr} (h : EvN tl σ H ds) (hM : ∀ a ∈ M, H a ≠ none) (hs : stills ds = true) : WkM M (iEnum K (tCons tl tNil)) σ H (numbered 0 ds) := fun H1 e R r =>
  h H1 e _ fun p xs H2 n2 e2 g1 g2 => by
    have hp : p ∉ M := fun z => hM p z (fresh_back e n2)
    refine ⟨p, xs, rfl, SqL.of g1, r _ H2 (fun H => SqL K H p xs) (YPair (fun i => some (.int (i : Nat))) (fun i => xs[i]?)) e2 (by rw [numbered_length, ← g2.length]; exact walk_enum) (fun H3 e3 => SqL.of (e3.1 _ _ hp g1)) fun i H3 x H4 e3 yy => ?_⟩
    obtain ⟨T, a, b, rfl, hT, rfl, ha, hb⟩ := yy
    obtain ⟨d2, hd2, im2⟩ := (g2.tx e3.2 hs).get hb
    have ea : a = .int (i : Nat) := (Option.some.inj ha).symm
    subst ea
    refine ⟨Ex.new hT, .tuple [.int (i : Nat), d2], ?_, .tup upd_same (.cons (.int _) (.cons (im2.mono (Ex.new hT)) .nil))⟩
    have := numbered_get ds 0 i d2 hd2
    rw [Nat.zero_add] at this
    exact this
theorem wm_range {M : List Addr} {ta : TA} {n : Nat} (h : EvDs ta σ H [.int (n : Int)]) (hn : n ≤ 100000) : WkM M (iRng1 ta) σ H ((List.range n).map fun i => .int (i : Nat)) := fun H1 e R r =>
  h H1 e _ fun vs H2 e2 iv => by
    obtain ⟨v, rfl, i1⟩ := iv.one
    refine ⟨(n : Int), by rw [i1.i], by omega, by omega, r _ H2 (fun _ => True) (fun i H x H' => i < n ∧ H' = H ∧ x = .int (0 + (i : Int))) e2 (by
      have : ((List.range n).map fun i => PyData.int (i : Nat)).length = (n : Int).toNat := by simp
      rw [this]
      exact ⟨fun _ _ hi _ => hi, fun _ _ => Nat.le_refl _, fun i _ _ _ hi _ y => ⟨by simpa using hi, y.1, y.2⟩⟩) (fun _ _ => trivial) fun i H3 x H4 e3 yy => ?_⟩
    obtain ⟨hi', rfl, rfl⟩ := yy
    have e0 : (0 : Int) + (i : Int) = (i : Int) := Int.zero_add _
    refine ⟨Ex.refl _, .int (i : Nat), ?_, by show Im H4 (.int ((0 : Int) + (i : Int))) _; rw [e0]; exact .int _⟩
    have hi := hi'
    simp [hi]
/-- THE FOR: Pv by the turn, the slots, the heap; a turn may change what stands at M -/
theorem s_forM {wi : TI} {src : List PyData} (M : List Addr) (hk : WkM M wi σ H src) (Pv : Nat → L2.St → Hp → Prop) (h0 : ∀ H1, Ex H H1 → Pv 0 σ H1)
    (hm : ∀ i σ' H1 H2, Pv i σ' H1 → Ex H1 H2 → Pv i σ' H2)
    (hs : ∀ i d x σ' H3 H4, src[i]? = some d → Ex H3 H4 → Im H4 x d → Pv i σ' H4 → g x σ' H4 fun σ2 H5 => tu { D with nx := fun σ3 H6 => Pv (i + 1) σ3 H6 ∧ ExM M H3 H6, ct := fun σ3 H6 => Pv (i + 1) σ3 H6 ∧ ExM M H3 H6, bk := D.nx } σ2 H5)
    (hd : ∀ σ' H', Pv src.length σ' H' → D.nx σ' H') : tFor wi g tu D σ H := by
  refine hk H (Ex.refl H) _ fun J H2 G Y e2 W hG hY => ?_
  refine ⟨fun i m σ' H' => m = src.length - i ∧ i ≤ src.length ∧ Pv i σ' H' ∧ ExM M H2 H', ⟨src.length, by simp, Nat.zero_le _, h0 H2 e2, ExM.refl M H2⟩, ?_⟩
  rintro i m σ' H3 ⟨rfl, hi, p, e3⟩
  by_cases hlt : i < src.length
  · refine .inr ⟨W.goes i H3 hlt (hG H3 e3), fun σ3 H6 => Pv (i + 1) σ3 H6 ∧ ExM M H3 H6, fun σ3 H6 q => ⟨src.length - (i + 1), by omega, rfl, hlt, q.1, e3.trans q.2⟩, fun x H4 y => ?_⟩
    obtain ⟨e34, d, hd', im⟩ := hY i H3 x H4 e3 (W.yields i H3 x H4 hlt (hG H3 e3) y)
    exact hs i d x σ' H3 H4 hd' e34 im (hm i σ' H3 H4 p e34)
  · have e : i = src.length := by omega
    subst e
    exact .inl ⟨W.stops H3 (hG H3 e3), hd σ' H3 p⟩
theorem q_forM {wi : TI} {src : List PyData} (M : List Addr) (hk : WkM M wi σ H src) (Pv : Nat → L2.St → Hp → Prop) (h0 : ∀ H1, Ex H H1 → Pv 0 σ H1)
    (hm : ∀ i σ' H1 H2, Pv i σ' H1 → Ex H1 H2 → Pv i σ' H2)
    (hs : ∀ i d x σ' H3 H4, src[i]? = some d → Ex H3 H4 → Im H4 x d → Pv i σ' H4 → g x σ' H4 fun σ2 H5 => tu { D with nx := fun σ3 H6 => Pv (i + 1) σ3 H6 ∧ ExM M H3 H6, ct := fun σ3 H6 => Pv (i + 1) σ3 H6 ∧ ExM M H3 H6, bk := tz D } σ2 H5)
    (hd : ∀ σ' H', Pv src.length σ' H' → tz D σ' H') : tSeq (tFor wi g tu) tz D σ H := s_forM (D := { D with nx := tz D }) M hk Pv h0 hm hs hd
/-- a pair's names -/
theorem g_pair {i j : Nat} {x : V} {d1 d2 : PyData} {R : L2.St → Hp → Prop} (h : Im H x (.tuple [d1, d2])) (k : ∀ a b, Im H a d1 → Im H b d2 → R ((σ.set i (some a)).set j (some b)) H) : gTup K 2 (gCons (gName i) (gCons (gName j) gNil)) x σ H R := by
  obtain ⟨p, xs, rfl, g1, g2⟩ := h.t
  obtain ⟨a, b, rfl, ia, ib⟩ := g2.two
  exact ⟨p, [a, b], rfl, SqT.of g1, rfl, a, [b], rfl, b, [], rfl, rfl, k a b ia ib⟩
end
end Pd
set_option Elab.async false
set_option linter.all false
set_option maxRecDepth 100000
set_option maxHeartbeats 2000000
/-! Cal: defs of the text by name, their promises, and their calls. -/
namespace Pd
open PySem PySem.Spec PyProof.Rows L2 Evl
/-- a def that stands behind a name, its promise kept -/
structure Cal (P : Program) (w : World) (K : PySem.W.Frag) (mg : Str → Option Value) (base : Heap) (CX : CXT) (k : Nat) (x : Str) (ps : List Str) (sp : Sp) : Prop where
  ex : ∃ (f : Addr) (fd : FuncData), mg x = some (.ref f) ∧ PySem.W.keepIn K (.ref f) = true ∧ Binds K fd ps [] ∧ FnOk P w K mg base CX k f fd ps sp
/-- a def of the text that stands behind its name -/
structure Src (K : PySem.W.Frag) (mg : Str → Option Value) (x : Str) (st : Stmt) (ps : List Str) : Prop where
  ex : ∃ (f : Addr) (fd : FuncData), mg x = some (.ref f) ∧ Fun K x x st f fd ∧ Binds K fd ps []
section
variable {P : Program} {w : World} {K : PySem.W.Frag} {mg : Str → Option Value} {base : Heap}
theorem Src.cal {x : Str} {st : Stmt} {N ps : List Str} {k : Nat} {sp : Sp} (F : Src K mg x st ps) (S : FnScope N ps (defScope st)) (len : ∀ vs H Q E, sp vs H Q E → vs.length = ps.length)
    (hbody : ∀ (f : Addr) (cdv : Value) (A : Around) (outer : List Env) (s : Shared) (H : Hp) (vs : List V) (Q : VK) (E : XK), Room k (A.deeper (envOfC x (defScope st) s.heap.objs.size f cdv)) → sp vs H Q E →
      ∃ t, PSs (cxOf CX0 P w K mg base N x (defScope st) f cdv A outer s H E).nox (defBody st) t ∧ t { nx := fun _ H' => Q .non H', rt := Q } (start N vs) H) : Cal P w K mg base CX0 (k + 1) x ps sp := by
  obtain ⟨f, fd, hm, hF, hb⟩ := F.ex
  exact ⟨f, fd, hm, hF.kp, hb, hF.ok S len fun cdv A outer s H vs Q E => hbody f cdv A outer s H vs Q E⟩
theorem Src.calX {x : Str} {st : Stmt} {N ps : List Str} {k : Nat} {sp : Sp} (F : Src K mg x st ps) (S : FnScope N ps (defScope st)) (len : ∀ vs H Q E, sp vs H Q E → vs.length = ps.length)
    (hbody : ∀ (f : Addr) (cdv : Value) (A : Around) (outer : List Env) (s : Shared) (H : Hp) (vs : List V) (Q : VK) (E : XK), Room k (A.deeper (envOfC x (defScope st) s.heap.objs.size f cdv)) → sp vs H Q E →
      ∃ t, PSs (cxOf (L2.CX P w) P w K mg base N x (defScope st) f cdv A outer s H E) (defBody st) t ∧ t { nx := fun _ H' => Q .non H', rt := Q } (start N vs) H) : Cal P w K mg base (L2.CX P w) (k + 1) x ps sp := by
  obtain ⟨f, fd, hm, hF, hb⟩ := F.ex
  exact ⟨f, fd, hm, hF.kp, hb, hF.okX S len fun cdv A outer s H vs Q E => hbody f cdv A outer s H vs Q E⟩
end
section
variable {X : Cx} {CX : CXT} {k : Nat} {ps : List Str} {sp : Sp} {E : XK} {x : Str} {p pos : Pos} {e : Expr} {es : List Expr} {t : TA}
theorem pe_cal (C : Cal X.prog X.w X.K X.mg X.base CX k x ps sp) (hr : Room k X.A) (hg : Gl X x) (hx : Passes CX X E)
    (ha : PA X (e :: es) t) (hdb : (x == ("__debug__" : Str)) = false := by decide) (he : starEach (e :: es) X.env = (false, eval e X.env) :: starEach es X.env := by rfl) (hpl : (backTo pos (starEach es X.env)).any (·.1) = false := by rfl) :
    PE X (.Call (.Name x p) (e :: es) [] pos) (tCall sp [] E t) := by
  obtain ⟨f, fd, hm, hk, hb, F⟩ := C.ex
  exact pe_call F hr hg hm hk hb .nil hx ha hdb he hpl
theorem pe_calS {W : WX} (C : Cal X.prog X.w X.K X.mg X.base (L2.CX X.prog X.w) k x ps sp) (hr : Room k X.A) (hg : Gl X x) (tk : Takes X W)
    (ha : PA X (e :: es) t) (hdb : (x == ("__debug__" : Str)) = false := by decide) (he : starEach (e :: es) X.env = (false, eval e X.env) :: starEach es X.env := by rfl) (hpl : (backTo pos (starEach es X.env)).any (·.1) = false := by rfl) :
    PE X (.Call (.Name x p) (e :: es) [] pos) (tCallS sp (WE W) t) := by
  obtain ⟨f, fd, hm, hk, hb, F⟩ := C.ex
  exact pe_callS F hr hg hm hk hb (fun σ => passAt tk σ) ha hdb he hpl
end
/-! ### slots -/
section
variable {K : PySem.W.Frag} {σ : L2.St} {H H' : Hp} {ta tb te tx tl to : TE} {t u : TT} {d : PyData}
theorem s_whenD {b : Bool} {D : Ends} {tu tz : TS} (h : EvT t σ H b) (h1 : b = true → ∀ H1, Ex H H1 → tu { D with nx := tz D } σ H1) (h2 : b = false → ∀ H1, Ex H H1 → tz D σ H1) : tSeq (tIfS t tu tNext) tz D σ H := q_when h h1 h2
end
end Pd
namespace Pd
open PySem PySem.Spec PyProof.Rows L2 Evl
section
variable {X : Cx}
theorem pe_gl {x : Str} {v : V} {pos : Pos} (hg : Gl X x) (hm : ∃ u, X.mg x = some u ∧ RelV v u) (hd : (x == ("__debug__" : Str)) = false := by decide) : PE X (.Name x pos) (tC v) := by
  obtain ⟨u, h1, h2⟩ := hm
  exact pe_glob hg h1 h2 hd
end
end Pd
namespace Pd
open L2
theorem kt_NoneType_str : kitB "NoneType" "str" = some false := by decide +kernel
theorem kt_NoneType_tuple : kitB "NoneType" "tuple" = some false := by decide +kernel
theorem kt_NoneType_int : kitB "NoneType" "int" = some false := by decide +kernel
theorem kt_NoneType_bool : kitB "NoneType" "bool" = some false := by decide +kernel
theorem kt_NoneType_list : kitB "NoneType" "list" = some false := by decide +kernel
theorem kt_NoneType_dict : kitB "NoneType" "dict" = some false := by decide +kernel
theorem kt_bool_str : kitB "bool" "str" = some false := by decide +kernel
theorem kt_bool_tuple : kitB "bool" "tuple" = some false := by decide +kernel
theorem kt_bool_int : kitB "bool" "int" = some true := by decide +kernel
theorem kt_bool_bool : kitB "bool" "bool" = some true := by decide +kernel
theorem kt_bool_list : kitB "bool" "list" = some false := by decide +kernel
theorem kt_bool_dict : kitB "bool" "dict" = some false := by decide +kernel
theorem kt_int_str : kitB "int" "str" = some false := by decide +kernel
theorem kt_int_tuple : kitB "int" "tuple" = some false := by decide +kernel
theorem kt_int_int : kitB "int" "int" = some true := by decide +kernel
theorem kt_int_bool : kitB "int" "bool" = some false := by decide +kernel
theorem kt_int_list : kitB "int" "list" = some false := by decide +kernel
theorem kt_int_dict : kitB "int" "dict" = some false := by decide +kernel
theorem kt_str_str : kitB "str" "str" = some true := by decide +kernel
theorem kt_str_tuple : kitB "str" "tuple" = some false := by decide +kernel
theorem kt_str_int : kitB "str" "int" = some false := by decide +kernel
theorem kt_str_bool : kitB "str" "bool" = some false := by decide +kernel
theorem kt_str_list : kitB "str" "list" = some false := by decide +kernel
theorem kt_str_dict : kitB "str" "dict" = some false := by decide +kernel
theorem kt_list_str : kitB "list" "str" = some false := by decide +kernel
theorem kt_list_tuple : kitB "list" "tuple" = some false := by decide +kernel
theorem kt_list_int : kitB "list" "int" = some false := by decide +kernel
theorem kt_list_bool : kitB "list" "bool" = some false := by decide +kernel
theorem kt_list_list : kitB "list" "list" = some true := by decide +kernel
theorem kt_list_dict : kitB "list" "dict" = some false := by decide +kernel
theorem kt_tuple_str : kitB "tuple" "str" = some false := by decide +kernel
theorem kt_tuple_tuple : kitB "tuple" "tuple" = some true := by decide +kernel
theorem kt_tuple_int : kitB "tuple" "int" = some false := by decide +kernel
theorem kt_tuple_bool : kitB "tuple" "bool" = some false := by decide +kernel
theorem kt_tuple_list : kitB "tuple" "list" = some false := by decide +kernel
theorem kt_tuple_dict : kitB "tuple" "dict" = some false := by decide +kernel
theorem kt_dict_str : kitB "dict" "str" = some false := by decide +kernel
theorem kt_dict_tuple : kitB "dict" "tuple" = some false := by decide +kernel
theorem kt_dict_int : kitB "dict" "int" = some false := by decide +kernel
theorem kt_dict_bool : kitB "dict" "bool" = some false := by decide +kernel
theorem kt_dict_list : kitB "dict" "list" = some false := by decide +kernel
theorem kt_dict_dict : kitB "dict" "dict" = some true := by decide +kernel
end Pd
namespace Pd
open PySem PySem.Spec PyProof.Rows L2 Evl
/-! ### the rules with the written part K named -/
section
variable {X : Cx} {K : PySem.W.Frag} (hK : X.K = K)
include hK
theorem k_in_seq : OpR X (compareOp .In) (rIn K false) := by subst hK; exact op_in_seq
theorem k_notIn_seq : OpR X (compareOp .NotIn) (rIn K true) := by subst hK; exact op_notIn_seq
theorem k_eqD (hu : X.A.units + 64 < cLine) : OpR X (compareOp .Eq) (rEqD K) := by subst hK; exact op_eqD hu
theorem k_neD (hu : X.A.units + 64 < cLine) : OpR X (compareOp .NotEq) (rNeD K) := by subst hK; exact op_neD hu
theorem k_catA : OpR X (binaryOp .Add) (rCatA K) := by subst hK; exact op_catA
theorem k_isi : CallR X (.builtin "isinstance") (rIsi K) := by subst hK; exact call_isi
theorem k_len_seq : CallR X (.builtin "len") (rLenS K) := by subst hK; exact call_len_seq
theorem k_all (hc : X.calm = true) : CallR X (.builtin "all") (rAll K) := by subst hK; exact cr_all hc
theorem k_any (hc : X.calm = true) : CallR X (.builtin "any") (rAny K) := by subst hK; exact cr_any hc
theorem k_tuple_of : CallR X (.type "tuple") (rTupOf K) := by subst hK; exact call_tuple_of
theorem k_list_of : CallR X (.type "list") (rLstOf K) := by subst hK; exact call_list_of
theorem k_sortedS : CallR X (.builtin "sorted") (rSortedS K) := by subst hK; exact cr_sortedS
theorem k_ix_list : IxR X (rIxL K) := by subst hK; exact ix_list
theorem k_ix_tup : IxR X (rIxT K) := by subst hK; exact ix_tup
theorem k_sl_list : SlR X (rSlL K) := by subst hK; exact sl_list
theorem k_sl_tupA : SlR X (rSlA K) := by subst hK; exact sl_tupA
theorem k_pi_list {tg l : Expr} {tl : TE} (hl : PE X l tl) : PI X tg l (iList K tl) := by subst hK; exact pi_list hl
theorem k_pi_tup {tg l : Expr} {tl : TE} (hl : PE X l tl) : PI X tg l (iTup K tl) := by subst hK; exact pi_tup hl
theorem k_pi_zipA {e e2 : Expr} {ta : TA} {p pos tpos : Pos} {elts : List Expr} {kk : Nat} (hg : Gl X "zip") (hm : X.mg "zip" = none) (ha : PA X [e, e2] ta)
    (hs : starEach [e, e2] X.env = (false, eval e X.env) :: starEach [e2] X.env := by rfl) (hpl : (backTo pos (starEach [e2] X.env)).any (·.1) = false := by rfl) :
    PI X (.Tuple elts kk tpos) (.Call (.Name "zip" p) [e, e2] [] pos) (RZ.iZipA K ta) := by subst hK; exact RZ.pi_zipA hg hm ha hs hpl
theorem k_pi_enum {e : Expr} {ta : TA} {p pos tpos : Pos} {elts : List Expr} {kk : Nat} (hg : Gl X "enumerate") (hm : X.mg "enumerate" = none) (ha : PA X [e] ta) (hs : starEach [e] X.env = [(false, eval e X.env)] := by rfl) :
    PI X (.Tuple elts kk tpos) (.Call (.Name "enumerate" p) [e] [] pos) (iEnum K ta) := by subst hK; exact pi_enum hg hm ha hs
theorem k_pg_tup {es : List Expr} {k : Nat} {pos : Pos} {t : TGs} {n : Nat} (hc : X.calm = true) (h : PGs X es t) (hn : (assignEach es X.env).length = n := by rfl) (hst : (assignEach es X.env).findIdx? (·.1) = none := by rfl) : PG X (.Tuple es k pos) (gTup K n t) := by subst hK; exact pg_tup hc h hn hst
theorem k_join {o e : Expr} {to te : TE} {apos pos : Pos} (ho : PE X o to) (he : PE X e te) (hs : starEach [e] X.env = [(false, eval e X.env)] := by rfl) (hbase : attributeBase o "join" X.env (eval o X.env) = eval o X.env := by rfl) (hline : (apos.endLine == pos.line) = true := by rfl) :
    PE X (.Call (.Attribute o "join" apos) [e] [] pos) (tM1 (rJoin K) to te) := by subst hK; exact pe_join ho he hs hbase hline
theorem k_append {o e : Expr} {es : List Expr} {to : TE} {t : TA} {apos cpos : Pos} (ho : PE X o to) (ha : PA X (e :: es) t)
    (hbase : attributeBase o "append" X.env (eval o X.env) = eval o X.env := by rfl)
    (hfew : ((backTo cpos (starEach (e :: es) X.env)).all (fun x => !x.1) && (backToKw cpos (keywordEach [] X.env)).all (fun x => x.1.isSome)
      && decide ((e :: es).length + ([] : List Keyword).length + (if ([] : List Keyword).isEmpty then 0 else 1) < 30)) = true := by rfl)
    (hline : (apos.endLine == cpos.line) = true := by rfl)
    (hs : starEach (e :: es) X.env = (false, eval e X.env) :: starEach es X.env := by rfl) (hpl : (backTo cpos (starEach es X.env)).any (·.1) = false := by rfl) :
    PE X (.Call (.Attribute o "append" apos) (e :: es) [] cpos) (tBM K "list" rAppend to t) := by subst hK; exact pe_bm PySem.F.plainAttrs_list PySem.F.slot_list_append PySem.F.type_list_append mt_append ho ha hbase hfew hline hs hpl
theorem k_pop {o e : Expr} {es : List Expr} {to : TE} {t : TA} {apos cpos : Pos} (ho : PE X o to) (ha : PA X (e :: es) t)
    (hbase : attributeBase o "pop" X.env (eval o X.env) = eval o X.env := by rfl)
    (hfew : ((backTo cpos (starEach (e :: es) X.env)).all (fun x => !x.1) && (backToKw cpos (keywordEach [] X.env)).all (fun x => x.1.isSome)
      && decide ((e :: es).length + ([] : List Keyword).length + (if ([] : List Keyword).isEmpty then 0 else 1) < 30)) = true := by rfl)
    (hline : (apos.endLine == cpos.line) = true := by rfl)
    (hs : starEach (e :: es) X.env = (false, eval e X.env) :: starEach es X.env := by rfl) (hpl : (backTo cpos (starEach es X.env)).any (·.1) = false := by rfl) :
    PE X (.Call (.Attribute o "pop" apos) (e :: es) [] cpos) (tBM K "list" rPopAt to t) := by subst hK; exact pe_bm PySem.F.plainAttrs_list PySem.F.slot_list_pop PySem.F.type_list_pop mt_popAt ho ha hbase hfew hline hs hpl
end
end Pd
set_option Elab.async false
set_option linter.all false
set_option maxRecDepth 100000
set_option maxHeartbeats 2000000
/-! Xc: own exceptions. -/
namespace Pd
open PySem PySem.Spec PyProof.Rows L2 Evl
/-- an own class over ValueError (perhaps through others) without own __init__ -/
structure XCls (K : PySem.W.Frag) (mg : Str → Option Value) (x : Str) (C : Addr) : Prop where
  g : mg x = some (.ref C)
  x : PySem.W.excIn K C [.type "ValueError", .type "Exception", .type "BaseException", .type "object"] "ValueError.__new__" = true
  keep : PySem.W.keepIn K (.ref C) = true
  sub : PySem.W.subIn K (.ref C) (.type "BaseException") = some true
  ty : PySem.W.typeIn K (.ref C) = some (.type "type")
  is : PySem.W.isClsIn K C = true
  self : PySem.W.subIn K (.ref C) (.ref C) = some true
/-- an own class over ValueError with an __init__ that stores one field f -/
structure XFld (K : PySem.W.Frag) (mg : Str → Option Value) (x f : Str) (C : Addr) : Prop where
  g : mg x = some (.ref C)
  o : OexC K C
  xf : XfC K C
  nf : PySem.W.findIn K (.ref C) f = some none
  is : PySem.W.isClsIn K C = true
  self : PySem.W.subIn K (.ref C) (.ref C) = some true
theorem exm_self {K : PySem.W.Frag} {S : Addr} (h1 : PySem.W.subIn K (.ref S) (.type "BaseException") = some true) (h2 : PySem.W.isClsIn K S = true) (h3 : PySem.W.typeIn K (.ref S) = some (.type "type")) (h4 : PySem.W.subIn K (.ref S) (.ref S) = some true) :
    PySem.W.exmOne K (.ref S) (.ref S) = some true := by
  have e1 : (PySem.W.subIn K (.ref S) (.type "BaseException") == some true) = true := by rw [h1] <;> rfl
  have e2 : ((PySem.W.clsIn K S).isSome && PySem.W.typeIn K (.ref S) == some (.type "type")) = true := by
    have h2' : (PySem.W.clsIn K S).isSome = true := h2
    rw [h2', h3] <;> rfl
  show (if (PySem.W.subIn K (.ref S) (.type "BaseException") == some true) = true then (if ((PySem.W.clsIn K S).isSome && PySem.W.typeIn K (.ref S) == some (.type "type")) = true then PySem.W.subIn K (.ref S) (.ref S) else none) else none) = some true
  rw [if_pos e1, if_pos e2]
  exact h4
theorem XCls.exm {K : PySem.W.Frag} {mg : Str → Option Value} {x : Str} {C : Addr} (T : XCls K mg x C) : PySem.W.exmOne K (.ref C) (.ref C) = some true := exm_self T.sub T.is T.ty T.self
theorem XFld.exm {K : PySem.W.Frag} {mg : Str → Option Value} {x f : Str} {C : Addr} (T : XFld K mg x f C) : PySem.W.exmOne K (.ref C) (.ref C) = some true := exm_self T.o.exC T.is T.o.tyC T.self
section
variable {X : Cx} {x f : Str} {C : Addr} {p pos : Pos} {e : Expr} {ta : TA}
/-- C() -/
theorem pmk_x (T : XCls X.K X.mg x C) (hg : Gl X x) (hdb : (x == ("__debug__" : Str)) = false := by decide) : PMk X (.Call (.Name x p) [] [] pos) (fun _ H Q => Q (.ref C) none H) := by
  intro pins s σ H Q I h
  refine wpAny_Call_Name_kw (ld_glob I hg T.g ?_ hdb)
  refine PySem.W.callWith_K0 I.kIn T.keep ?_
  show wpAny _ _ (call (.ref C) []) _ _ _
  obtain ⟨bm, N, nm, qn, bs, hdct, sn, sub, ab, col, dd, k0, k1, k2, k3, k5, mN, hC, hN, hni, TT⟩ := exc_obj I.kIn T.x
  exact wpAny_call_exc_subT PySem.F.excBase_ValueError TT hC hN hni (fun h' e hm => mk_of I hm (raises_own T.sub T.ty) h (I.hok.gone hm.new)) (Nat.zero_le _)
/-- C(e, ..) without own __init__ -/
theorem pmk_xa {es : List Expr} (T : XCls X.K X.mg x C) (hg : Gl X x) (ha : PA X (e :: es) ta) (hdb : (x == ("__debug__" : Str)) = false := by decide)
    (he : starEach (e :: es) X.env = (false, eval e X.env) :: starEach es X.env := by rfl) (hpl : (backTo pos (starEach es X.env)).any (·.1) = false := by rfl) :
    PMk X (.Call (.Name x p) (e :: es) [] pos) (fun σ H Q => ta σ H fun vs H1 => vs.length ≤ sizeLine ∧ Q (.ref C) none H1) :=
  pmk_ownA PySem.F.excBase_ValueError T.x T.g T.keep (raises_own T.sub T.ty) hg ha hdb he hpl
/-- the promise of an __init__ that stores its one argument: self.f = v -/
def sp_fld (C : Addr) (f : Str) : Sp := fun vs H Q _ => ∃ (a : Addr) (v : V), vs = [.ref a, v] ∧ H a = some (exo a C none) ∧
  ∀ dx, H dx = none → dx ≠ a → Q .non (upd (upd H dx (exd dx [(f, v)])) a (exo a C (some dx)))
/-- C(e): the exception's own dict holds the field -/
theorem pmk_f {k : Nat} {fI : Addr} {fd : FuncData} (T : XFld X.K X.mg x f C) (iC : PySem.W.findIn X.K (.ref C) "__init__" = some (some (.ref fI))) (tI : PySem.W.typeIn X.K (.ref fI) = some (.type "function"))
    (F1 : FnOk X.prog X.w X.K X.mg X.base CX0 k fI fd ["self", f] (sp_fld C f)) (hb : Binds X.K fd ["self", f] []) (hr : Room (k + 1) X.A) (hg : Gl X x) (ha : PA X [e] ta) (hdb : (x == ("__debug__" : Str)) = false := by decide)
    (he : starEach [e] X.env = (false, eval e X.env) :: starEach [] X.env := by rfl) (hpl : (backTo pos (starEach [] X.env)).any (·.1) = false := by rfl) :
    PMk X (.Call (.Name x p) [e] [] pos) (tMkO C (sp_fld C f) [] ta) := pmk_oex T.o iC tI F1 hr hb .nil pass0 hg T.g ha hdb he hpl
theorem mk_f {σ : L2.St} {H : Hp} {d : PyData} {Q : XK} (h : EvDs ta σ H [d]) (k : ∀ v dd H2, Ex H H2 → Im H2 v d → H2 dd = some (.xd [(f, v)]) → Q (.ref C) (some dd) H2) : tMkO C (sp_fld C f) [] ta σ H Q := by
  refine h H (Ex.refl H) _ fun vs H1 e1 iv => ?_
  obtain ⟨v, rfl, i1⟩ := iv.one
  refine ⟨by show 1 ≤ 1000; omega, fun a ha => ⟨a, v, rfl, upd_same, fun dx hdx hne => ⟨rfl, dx, [(f, v)], upd_same, by rw [upd_ne hne, upd_same], ?_, ?_⟩⟩⟩
  · rw [upd_ne hne] at hdx; exact hdx
  · have hd1 : H1 dx = none := by rw [upd_ne hne] at hdx; exact hdx
    have e2 : Ex H1 (upd (del (upd (upd (upd H1 a (exo a C none)) dx (exd dx [(f, v)])) a (exo a C (some dx))) a) dx (.xd [(f, v)])) := fun b o hb => by
      have h1 : b ≠ a := fun z => by rw [z, ha] at hb; cases hb
      have h2 : b ≠ dx := fun z => by rw [z, hd1] at hb; cases hb
      rw [upd_ne h2, del_ne h1, upd_ne h1, upd_ne h2, upd_ne h1]
      exact hb
    exact k v dx _ (e1.trans e2) (i1.mono e2) upd_same
end
end Pd
set_option Elab.async false
set_option linter.all false
set_option maxRecDepth 100000
set_option maxHeartbeats 2000000
/-! Dr: dict(a tuple of pairs), tuple(d.items()), list.count of texts. -/
namespace Pd
open PySem PySem.Spec PyProof.Rows L2 Evl
section
variable {X : Cx} {es : List Expr} {t : TA} {pos : Pos}
/-- a tuple, a list of written items: its object is known to have no dict -/
def tTupF (t : TA) : TE := fun σ H Q => t σ H fun xs H1 => xs.length ≤ sizeLine ∧ ∀ p o, H1 p = none → o.dict = none → Q (.ref p) (upd H1 p (.frz o (.tup xs)))
theorem pe_tupF {x1} (h : PA X es t) : PE X (.Tuple es x1 pos) (tTupF t) := by
  refine ⟨fun pins s σ H Q I hq => ?_⟩
  refine wpAny_Tuple_spliced (thn (h.run pos pins s σ H _ I hq) fun us s1 ⟨xs, H1, I1, r, z, q⟩ => ⟨by rw [← r.length]; exact z, ?_⟩)
  have hf : H1 s1.heap.objs.size = none := I1.hok.fresh (Nat.le_refl _)
  refine ⟨.ref s1.heap.objs.size, upd H1 s1.heap.objs.size (.frz { cls := .type "tuple", data := .seq us.toArray } (.tup xs)), I1.laid (t' := s1.toks) (fun b u e => Heap.get?_push_of_some _ e) (Nat.le_refl _) ?_, rfl, q _ _ hf rfl⟩
  exact ⟨Heap.get?_push_size _ rfl, z, us, r, ⟨_, Heap.get?_push_size _ rfl, rfl, _, rfl⟩⟩
/-- t + u: a new one has no dict -/
def rCatF (K : PySem.W.Frag) : R2 := fun x y H Q => ∃ a b xs ys, x = .ref a ∧ y = .ref b ∧ SqT K H a xs ∧ SqT K H b ys ∧ xs.length + ys.length ≤ sizeLine ∧
  (xs = [] → Q (.ref b) H) ∧ (xs ≠ [] → ys = [] → Q (.ref a) H) ∧ (xs ≠ [] → ys ≠ [] → ∀ p o, H p = none → o.dict = none → Q (.ref p) (upd H p (.frz o (.tup (xs ++ ys)))))
theorem k_catF {K : PySem.W.Frag} (hK : X.K = K) : OpR X (binaryOp .Add) (rCatF K) := by
  subst hK
  intro pins s σ H x y v u Q I rx ry h
  obtain ⟨a, b, xs, ys, rfl, rfl, ha, hb, hz, q0, q1, q2⟩ := h
  cases rx
  cases ry
  obtain ⟨its, r1, p1, _⟩ := I.tuple ha
  obtain ⟨its2, r2, p2, _⟩ := I.tuple hb
  by_cases hx : xs = []
  · subst hx
    cases r1
    exact cat_tup0 p1 p2 ⟨.ref b, H, I, rfl, q0 rfl⟩
  · have hi : its ≠ [] := fun z => hx (r1.nil_iff.mp z)
    refine HT.cat_tup p1 p2 hi (fun z => ⟨.ref a, H, I, rfl, q1 hx (r2.nil_iff.mp z)⟩) (fun z => ?_) (by rw [← r1.length, ← r2.length]; exact hz)
    have hy : ys ≠ [] := fun e => z (r2.nil_iff.mpr e)
    refine ⟨.ref s.heap.objs.size, upd H s.heap.objs.size (.frz { cls := .type "tuple", data := .seq (its ++ its2).toArray } (.tup (xs ++ ys))), I.laid (t' := s.toks) (fun b u e => Heap.get?_push_of_some _ e) (Nat.le_refl _) ?_, rfl, q2 hx hy _ _ (I.hok.fresh (Nat.le_refl _)) rfl⟩
    exact ⟨Heap.get?_push_size _ rfl, by rw [List.length_append]; exact hz, its ++ its2, r1.append r2, ⟨_, Heap.get?_push_size _ rfl, rfl, _, rfl⟩⟩
theorem pairs_of2 {pins : List (Addr × Obj)} {σ : L2.St} {H : Hp} {s : Shared} (I : Inv X pins σ H s) : ∀ {ps : List Addr} {kvs : List (Key × V)}, Paired (fun p kv => SqT X.K H p [kV kv.1, kv.2]) ps kvs →
    ∃ (prs : List (Key × Value)) (pvs : List (Value × Value)), KV kvs prs ∧ prs.length = ps.length ∧ pvs.length = ps.length ∧ ∀ (j : Nat) (q : Value × Value), pvs[j]? = some q → ∃ (b : Addr) (k : Key), ps[j]? = some b ∧ IsTup s.heap b #[q.1, q.2] ∧ prs[j]? = some (k, q.2) ∧ keyIs k q.1 = true
  | _, _, .nil => ⟨[], [], .nil, rfl, rfl, fun j q e => by simp at e⟩
  | _, _, .cons (a := p) (b := kv) h t => by
    obtain ⟨prs, pvs, r, hl, hl2, hp⟩ := pairs_of2 I t
    obtain ⟨its, rv, ht, _⟩ := I.tuple h
    obtain ⟨u, y, ei, ru, ry⟩ := vals2 rv
    subst ei
    refine ⟨(kv.1, y) :: prs, (u, y) :: pvs, .cons ⟨rfl, ry⟩ r, by rw [List.length_cons, List.length_cons, hl], by rw [List.length_cons, List.length_cons, hl2], fun j q e => ?_⟩
    cases j with
    | zero =>
      have e' : (u, y) = q := Option.some.inj e
      subst e'
      exact ⟨p, kv.1, rfl, ht, rfl, kV_is (P := X.prog) (w := X.w) ru⟩
    | succ j =>
      obtain ⟨b, k, e1, e2, e3, e4⟩ := hp j q (by simpa using e)
      exact ⟨b, k, by simpa using e1, e2, by simpa using e3, e4⟩
/-- dict(t) of a tuple of pairs (key, value) -/
def rDictF (K : PySem.W.Frag) : List V → Hp → VK → Prop := fun xs H Q => ∃ (a : Addr) (o : Obj) (ps : List Addr) (kvs : List (Key × V)), xs = [.ref a] ∧ H a = some (.frz o (.tup (ps.map V.ref))) ∧ o.dict = none ∧ Paired (fun p kv => SqT K H p [kV kv.1, kv.2]) ps kvs ∧
    ∀ p, H p = none → Q (.ref p) (upd H p (.dK (mergeK [] kvs)))
theorem k_dictF {K : PySem.W.Frag} (hK : X.K = K) (hcalm : X.calm = true) : CallR X (.type "dict") (rDictF K) := by
  subst hK
  intro pins s σ H xs us Q I r q
  obtain ⟨a, o, ps, kvs, ex, hq, hod, hp, q⟩ := q
  subst ex
  obtain ⟨u, eu, rx⟩ := vals1 r
  subst eu
  cases rx
  obtain ⟨ho, hz, its, rv, ⟨o2, ho2, hc, n, hd⟩⟩ := I.hok a _ hq
  rw [ho] at ho2
  cases ho2
  have ei := refs_at rv
  subst ei
  rw [List.length_map] at hz
  obtain ⟨prs, pvs, rel, hl, hl2, hpr⟩ := pairs_of2 I hp
  refine PySem.call_dict_pairs (knd := mixKind X.prog X.w) (kvs := prs) (PairArg.tuple a (ps.map Value.ref).toArray (fun j => ps.getD j 0) pvs) (I.ok.hd hcalm) ⟨⟨o, n, ho, hc, hod, hd⟩, by simp [hl2], fun j k v e => ?_⟩ ⟨by rw [hl, hl2], fun i key v e => ?_⟩ (by rw [hl2]; exact hz) fun h' tk hd' k => ?_
  · obtain ⟨b, kk, e1, e2, e3, e4⟩ := hpr j (k, v) e
    have eb : ps.getD j 0 = b := by simp [List.getD, e1]
    show _ ∧ _
    dsimp only
    rw [eb]
    exact ⟨by simp [e1], .inl e2⟩
  · obtain ⟨b, kk, e1, e2, e3, e4⟩ := hpr i (key, v) e
    exact ⟨kk, e3, e4⟩
  · have hm : (s.heap.objs.size == sysModules) = false := beq_eq_false_iff_ne.mpr (Nat.ne_of_gt I.big)
    have hlen : (mergeK [] kvs).length ≤ sizeLine := by
      refine Nat.le_trans (length_mergeK kvs []) ?_
      rw [List.length_nil, Nat.zero_add, rel.length, hl]
      exact hz
    exact ⟨.ref s.heap.objs.size, upd H s.heap.objs.size (.dK (mergeK [] kvs)), I.laid (t' := tk) (fun b o e => k b o (by simp) e) (Nat.le_refl _) (show ObjOk X.prog X.w _ _ _ (.dK (mergeK [] kvs)) from ⟨hlen, hm, merged [] prs, KV.merge rel .nil, hd'⟩), rfl, q _ (I.hok.fresh (Nat.le_refl _))⟩
/-- xs.count(t) of a list of texts -/
def rCntS (K : PySem.W.Frag) : V → List V → Hp → VK → Prop := fun x xs H Q => ∃ (p : Addr) (ns : List Str) (k : Str), x = .ref p ∧ xs = [.str k] ∧ SqL K H p (ns.map V.str) ∧ Q (.int (ns.countP fun n => decide (n = k) : Nat)) H
theorem countP_eqU {x : V} : ∀ {xs : List V} {us : List Value}, Vals xs us → xs.all flatV = true → us.countP (eqU x) = xs.countP fun y => eqV y x
  | _, _, .nil, _ => rfl
  | y :: xs, u :: us, .cons r t, f => by
    rw [List.all_cons, Bool.and_eq_true] at f
    rw [List.countP_cons, List.countP_cons, eqU_of r f.1, countP_eqU t f.2]
theorem mt_lcountS : MtR X "list.count" (rCntS X.K) := by
  intro pins s σ H x xs v us Q I rx rxs h
  obtain ⟨p, ns, k, rfl, rfl, hs, q⟩ := h
  cases rx
  obtain ⟨u, rfl, ru⟩ := rxs.one
  obtain ⟨its, rv, ⟨⟨cls, dd, data, sl⟩, n, ho, hc, hdn, hd⟩, hlen⟩ := I.list hs
  simp only at hc hd
  subst hc hd
  refine call_meets PySem.F.slot_list_count ⟨_, ho, rfl⟩ PySem.F.entry_list_count (PySem.F.args_list_count_2 _ _)
    (SeqAt.list_countAt p its.toArray n dd sl u (eqU (.str k))) ⟨ho, fun y hy => mem_eqAt ru rfl rv (flat_strs ns) y (by simpa using hy), ?_⟩
  have ec : its.toArray.toList.countP (eqU (.str k)) = ns.countP fun n => decide (n = k) := by
    show its.countP (eqU (.str k)) = _
    rw [countP_eqU rv (flat_strs ns), List.countP_map]
    refine List.countP_congr fun a _ => ?_
    show (eqV (V.str a) (.str k) = true) ↔ _
    simp [eqV]
  refine ⟨.int (ns.countP (fun n => decide (n = k)) : Nat), H, I.tok _, ⟨s.toks, ?_⟩, q⟩
  show Value.int ((its.toArray.toList.countP (eqU (.str k)) : Nat) : Int) s.toks = Value.int ((ns.countP (fun n => decide (n = k)) : Nat) : Int) s.toks
  rw [ec]
end
end Pd
set_option Elab.async false
set_option linter.all false
set_option maxRecDepth 100000
set_option maxHeartbeats 2000000
/-! Dr2: tuple(d.items()). -/
namespace Pd
open PySem PySem.Spec PyProof.Rows L2 Evl LiI
open AutoSeq1 (wpAny_loadPart')
section
variable {prog : Program} {w : World}
theorem tuple_new_items (r d : Addr) (o : Obj) (knd : PySem.KeyKind prog w Key) (kvs : List (Key × Value)) (ep : Nat) (hc : o.cls = .type "dict_items") :
    MeetsIn prog w (Builtin.«tuple.__new__» ⟨[.type "tuple", .ref r], []⟩) (fun A R s => A.handled = none ∧ s.heap.get? r = some o ∧ s.heap.IsItemsView r d ∧ s.heap.DictAt knd d kvs ep ∧ kvs.length ≤ sizeLine ∧
      ∀ (h' : Heap) (tk : Nat) (as : List Addr), (∀ b o, s.heap.get? b = some o → h'.get? b = some o) → as.length = kvs.length → PySem.W.KdxG knd kvs s.heap.objs.size h' as →
        R (.ok (.ret (.ref h'.objs.size))) { s with heap := h'.push { cls := .type "tuple", data := .seq (as.map Value.ref).toArray }, toks := tk }) :=
  .of_wp fun A R s h => by
    obtain ⟨hp, g, dd, tk, os⟩ := s
    obtain ⟨hh, ht, hv, hm, hn, h⟩ := h
    have hsub := sub_tuple_self
    have hinit := init_tuple_lookup
    have hmh := madeHere_tuple
    have hT : Shared.TypeIs ⟨hp, g, dd, tk, os⟩ (.ref r) "dict_items" := ⟨o, ht, hc⟩
    have col : ∀ {Q : List Value → Shared → Prop} {E : Value → Shared → Prop}, (∀ (h' : Heap) (tk : Nat) (as : List Addr), (∀ b o, hp.get? b = some o → h'.get? b = some o) → as.length = kvs.length → PySem.W.KdxG knd kvs hp.objs.size h' as → Q (as.map Value.ref) ⟨h', g, dd, tk, os⟩) → wpAny (model prog w) A.in1 (collect (.ref r)) Q E ⟨hp, g, dd, tk, os⟩ := fun q => PySem.W.kdx_collect (s := ⟨hp, g, dd, tk, os⟩) hh hv hm hn q
    obtain ⟨o2, ho2, hc2, hd2⟩ := hv
    rw [ht] at ho2
    cases ho2
    wp_walk using wpAny_loadPart' ht, wpAny_typeOf hT, col
    intro h' tk' as hk hl hG
    have hz : as.length ≤ sizeLine := by rw [hl]; exact hn
    show wpAny _ _ (Builtin.Tuple.tupleExact (as.map Value.ref).toArray >>= fun v => ret v) _ _ _
    unfold Builtin.Tuple.tupleExact
    refine wpAny_bind (wpAny_newObj_type ?_ (by show (as.map Value.ref).toArray.size ≤ sizeLine; simpa using hz))
    refine wpAny_pure ⟨_, rfl, ?_⟩
    exact h h' tk' as hk hl hG
end
/-- tuple(d.items()): the address of the tuple is the last -/
def rItemsT : V → Hp → VK → Prop := fun x H Q => ∃ (d : Addr) (kvs : List (Key × V)), x = .ref d ∧ kvs ≠ [] ∧ H d = some (.dK kvs) ∧
  ∀ (H' : Hp) (p : Addr) (ts : List Addr), (∀ b o, H b = some o → H' b = some o) → H p = none → H' p = some (.tup (ts.map V.ref)) → Paired (fun (t : Addr) (q : Key × V) => H' t = some (.tup [kV q.1, q.2])) ts kvs → Q (.ref p) H'
def tTupItems (te : TE) : TE := fun σ H Q => te σ H fun x H1 => rItemsT x H1 Q
section
variable {X : Cx} {e : Expr} {te : TE} {p apos cpos pos : Pos}
theorem items_laidT {pins : List (Addr × Obj)} {σ : L2.St} {H : Hp} {s : Shared} {h' : Heap} {tk : Nat} {kvs : List (Key × V)} {vs : List (Key × Value)} {as : List Addr} (I : Inv X pins σ H s) (hne : kvs ≠ []) (hz : kvs.length ≤ sizeLine) (kv : KV kvs vs)
    (hk : ∀ b o, s.heap.get? b = some o → h'.get? b = some o) (hl : as.length = vs.length) (hG : PySem.W.KdxG (mixKind X.prog X.w) vs s.heap.objs.size h' as) :
    ∃ H' : Hp, (∀ b o, H b = some o → H' b = some o) ∧ H h'.objs.size = none ∧ H' h'.objs.size = some (.tup (as.map V.ref)) ∧ Paired (fun (t : Addr) (q : Key × V) => H' t = some (.tup [kV q.1, q.2])) as kvs ∧ Inv X pins σ H' { s with heap := h'.push { cls := .type "tuple", data := .seq (as.map Value.ref).toArray }, toks := tk } := by
  have lk : kvs.length = vs.length := Paired.length kv
  have hsz : s.heap.objs.size ≤ h'.objs.size := by
    cases as with
    | nil => exact absurd (List.length_eq_zero_iff.mp (lk.trans hl.symm)) hne
    | cons a as => exact Nat.le_of_lt (Nat.lt_trans (hG.above a (List.mem_cons_self ..)) (hG.there (List.mem_cons_self ..)))
  have hSn : h'.objs.size ∉ as := fun z => Nat.lt_irrefl _ (hG.there z)
  have nd : as.Nodup := List.Pairwise.imp (fun {a b} (h : a < b) => Nat.ne_of_lt h) hG.rise
  have new : ∀ t ∈ as, H t = none := fun t ht => I.hok.fresh (Nat.le_of_lt (hG.above t ht))
  have newS : H h'.objs.size = none := I.hok.fresh hsz
  have atP := putT_at as kvs (upd H h'.objs.size (.tup (as.map V.ref))) (by omega) nd
  have off : ∀ b, b ∉ as → b ≠ h'.objs.size → putT (upd H h'.objs.size (.tup (as.map V.ref))) as kvs b = H b := fun b h1 h2 => by rw [putT_off as kvs _ h1, upd_ne h2]
  have low : ∀ b o, s.heap.get? b = some o → b ∉ as ∧ b ≠ h'.objs.size := fun b o e => ⟨fun z => absurd (Heap.lt_size e) (Nat.not_lt.mpr (Nat.le_of_lt (hG.above b z))), Nat.ne_of_lt (Heap.lt_size (hk b o e))⟩
  have kp : ∀ b u, H b = some u → (putT (upd H h'.objs.size (.tup (as.map V.ref))) as kvs) b = some u := fun b u e => by
    rw [off b (fun z => by rw [new b z] at e; cases e) (fun z => by rw [z, newS] at e; cases e)]
    exact e
  have eS : putT (upd H h'.objs.size (.tup (as.map V.ref))) as kvs h'.objs.size = some (.tup (as.map V.ref)) := by rw [putT_off as kvs _ hSn, upd_same]
  have hk2 : ∀ b o, s.heap.get? b = some o → (h'.push { cls := .type "tuple", data := .seq (as.map Value.ref).toArray }).get? b = some o := fun b o q => Heap.get?_push_of_some _ (hk b o q)
  refine ⟨putT (upd H h'.objs.size (.tup (as.map V.ref))) as kvs, kp, newS, eS, atP, ?_⟩
  refine I.call' (ch := []) rfl ⟨fun b o q _ _ _ => hk2 b o q, fun b o q _ _ _ => ⟨o.slots, hk2 b o q⟩, fun b o q n _ => ?_, fun b o q _ => ⟨o, hk2 b o q⟩, fun b xs q => kp b _ q, fun b o u q => kp b _ q, fun b ps q => ⟨#[], by rw [kp b _ q]; simp⟩⟩ (fun b u q => ?_) I.bare fun b z => by simp at z
  · obtain ⟨z1, z2⟩ := low b o q
    rw [off b z1 z2]
    exact n
  · by_cases hb : b ∈ as
    · obtain ⟨j, pk, e1, e2, e3⟩ := paired_ix atP hb
      rw [e3] at q
      cases q
      obtain ⟨key, k, x, f1, f2, f3⟩ := hG.pairs j b e1
      obtain ⟨qv, g1, g2, g3⟩ := L2.paired_get kv e2
      rw [f1] at g1
      cases g1
      have rk : RelV (kV pk.1) key := by
        rw [g2]
        exact relV_key (show keyIs k key = true from f2)
      exact ⟨by show 2 ≤ sizeLine; decide, [key, x], .cons rk (.cons g3 .nil), ⟨_, Heap.get?_push_of_some _ f3, rfl, _, rfl⟩⟩
    · by_cases hb2 : b = h'.objs.size
      · rw [hb2] at q ⊢
        rw [eS] at q
        cases q
        exact ⟨by rw [List.length_map]; omega, as.map Value.ref, vals_refs as, ⟨_, Heap.get?_push_size _ rfl, rfl, _, rfl⟩⟩
      · rw [off b hb hb2] at q
        exact (I.hok b u q).stay (fun d v _ y => hk2 d v y) (fun d y => kp d _ y) fun d xs y => kp d _ y
/-- tuple(e.items()) -/
theorem pe_tupItems (hc : X.calm = true) (he : PE X e te) (hg : Gl X "tuple") (hm : X.mg "tuple" = none) (hv : bootBuiltins "tuple" = some (.type "tuple")) (hbase : attributeBase e "items" X.env (eval e X.env) = eval e X.env := by rfl) (hline : (apos.endLine == cpos.line) = true := by rfl)
    (hs : starEach [.Call (.Attribute e "items" apos) [] [] cpos] X.env = (false, eval (.Call (.Attribute e "items" apos) [] [] cpos) X.env) :: starEach [] X.env := by rfl) :
    PE X (.Call (.Name "tuple" p) [.Call (.Attribute e "items" apos) [] [] cpos] [] pos) (tTupItems te) := by
  refine ⟨fun pins s σ H Q I hq => ?_⟩
  refine wpAny_Call_Name_kw (ld_blt I hg hm hv ?_)
  refine PyProof.Rows.callWith_type1 ?_ hs rfl
  rw [hs]
  show wpAny _ _ (spliced ((false, eval (.Call (.Attribute e "items" apos) [] [] cpos) X.env) :: backTo pos (starEach [] X.env))) _ _ s
  refine Calls.spliced_cons ?_
  refine wpAny_Call_method (T := "dict") (id := "dict.items") hbase rfl hline F.plainAttrs_dict F.slot_dict_items F.type_dict_items (thn (he.run pins s σ H _ I hq) fun u s1 ⟨x, H1, I1, rx, d, kvs, ex, hne, hd, q⟩ => ?_)
  subst ex
  obtain rfl : u = Value.ref d := rx
  obtain ⟨hz, hs0, vs, kv, hdo⟩ := I1.hok d _ hd
  obtain ⟨ep, hat⟩ := hdo.dictAt
  have lk : kvs.length = vs.length := Paired.length kv
  have I2 : Inv X pins σ H1 { s1 with heap := s1.heap.push { cls := .type "dict_items", data := .fields #[.ref d] } } := I1.kept (t' := s1.toks) fun b ob q => Heap.get?_push_of_some _ q
  refine ⟨hdo.typeIs, hdo.mapOf.noDict, ?_⟩
  show wpAny _ _ (callWith cpos (.builtin "dict.items") [.ref d] [] []) _ X.xe s1
  refine method_meetsIn F.slot_dict_items F.entry_dict_items rfl (PySem.evalArgs_none ⟨rfl, hdo.typeIs, F.args_dict_items_1 _, _, meets_dict_items (mixKind X.prog X.w) d hs0, ⟨vs, hdo⟩, ?_⟩)
  refine Calls.spliced_nil ?_
  have hgv : (s1.heap.push { cls := .type "dict_items", data := .fields #[.ref d] }).get? s1.heap.objs.size = some { cls := .type "dict_items", data := .fields #[.ref d] } := Heap.get?_push_size _ rfl
  refine callType_newIn F.called_tuple (by decide) (F.typeCall_tuple_1 _) (F.newCall_tuple_1 _) (fun obj => F.args_object_init_2 obj _) F.entry_tuple_new
    (tuple_new_items s1.heap.objs.size d _ (mixKind X.prog X.w) vs ep rfl) ⟨I.ok.hd hc, hgv, ⟨_, hgv, rfl, rfl⟩, hat.push _, by omega, fun h' tk as hk hl hG => ?_⟩
  obtain ⟨H', k1, k2, k3, k4, J⟩ := items_laidT (tk := tk) I2 hne hz kv hk hl hG
  exact ⟨⟨_, Heap.get?_push_size _ rfl, rfl⟩, .ref _, H', J, rfl, q H' _ as k1 k2 k3 k4⟩
end
end Pd
set_option Elab.async false
set_option linter.all false
set_option maxRecDepth 100000
set_option maxHeartbeats 2000000
/-! Dd: dict(tuple), its items, count, and answers that are known only by what holds of them. -/
namespace Pd
open PySem PyProof.Rows L2 Evl
def EvF (te : TE) (σ : L2.St) (H : Hp) (ds : List PyData) : Prop := ∀ H1, Ex H H1 → ∀ Q : VK, (∀ p o xs H2, Ex H1 H2 → H2 p = some (.frz o (.tup xs)) → o.dict = none → Ims H2 xs ds → Q (.ref p) H2) → te σ H1 Q
/-- some data of which P holds -/
def EvP (te : TE) (σ : L2.St) (H : Hp) (P : PyData → Prop) : Prop := ∀ H1, Ex H H1 → ∀ Q : VK, (∀ v d H2, Ex H1 H2 → P d → Im H2 v d → Q v H2) → te σ H1 Q
def EvNP (te : TE) (σ : L2.St) (H : Hp) (P : List PyData → Prop) : Prop := ∀ H1, Ex H H1 → ∀ Q : VK, (∀ p xs ds H2, H1 p = none → Ex H1 H2 → P ds → H2 p = some (.lst xs) → Ims H2 xs ds → Q (.ref p) H2) → te σ H1 Q
/-- a test that may go either way, what holds then being P -/
def EvX (tt : TT) (σ : L2.St) (H : Hp) (P : Bool → Prop) : Prop := ∀ H1, Ex H H1 → ∀ Q : Bool → Hp → Prop, (∀ b H2, Ex H1 H2 → P b → Q b H2) → tt σ H1 Q
section
variable {K : PySem.W.Frag} {σ : L2.St} {H H' : Hp} {ta tb te tx tl to : TE} {t u : TT} {x y z v : V} {d d' e' : PyData} {ds es : List PyData}
theorem EvF.is {es : List PyData} (h : EvF te σ H ds) (e : ds = es) : EvF te σ H es := e ▸ h
theorem ef_tup {ta : TA} (h : EvDs ta σ H ds) (hl : ds.length ≤ 100000) : EvF (tTupF ta) σ H ds := fun H1 e _ q =>
  h H1 e _ fun vs H2 e2 i2 => ⟨sz_of (by rw [i2.length]; exact hl), fun p o hp ho => q p o vs _ (e2.trans (Ex.new hp)) upd_same ho (i2.mono (Ex.new hp))⟩
theorem ef_cat1 (ha : EvD ta σ H (.tuple ds)) (hb : EvF tb σ H es) (he : es ≠ []) (hz : ds.length + es.length ≤ 100000) : EvF (tOp (rCatF K) ta tb) σ H (ds ++ es) := fun H1 e Q q =>
  ha H1 e _ fun x H2 e2 ix => hb H2 (e.trans e2) _ fun p' o xs' H3 e3 g1' ho g2' => by
    obtain ⟨p, xs, rfl, g1, g2⟩ := (ix.mono e3).t
    have hne : xs' ≠ [] := fun z => by subst z; cases g2'; exact he rfl
    refine ⟨p, p', xs, xs', rfl, rfl, SqT.of g1, .inl (.inr ⟨o, g1'⟩), sz_of (by rw [g2.length, g2'.length]; exact hz), fun z => ?_, fun _ z => absurd z hne, fun _ _ r o' hr ho' => ?_⟩
    · subst z; cases g2; exact q p' o xs' H3 (e2.trans e3) g1' ho g2'
    · exact q r o' _ _ ((e2.trans e3).trans (Ex.new hr)) upd_same ho' ((g2.append g2').mono (Ex.new hr))
theorem ef_cat2 (ha : EvF ta σ H ds) (hb : EvD tb σ H (.tuple es)) (hd : ds ≠ []) (hz : ds.length + es.length ≤ 100000) : EvF (tOp (rCatF K) ta tb) σ H (ds ++ es) := fun H1 e Q q =>
  ha H1 e _ fun p o xs H2 e2 g1 ho g2 => hb H2 (e.trans e2) _ fun y H3 e3 iy => by
    obtain ⟨p', xs', rfl, g1', g2'⟩ := iy.t
    have g1 := e3 _ _ g1
    have g2 := g2.mono e3
    have hne : xs ≠ [] := fun z => by subst z; cases g2; exact hd rfl
    refine ⟨p, p', xs, xs', rfl, rfl, .inl (.inr ⟨o, g1⟩), SqT.of g1', sz_of (by rw [g2.length, g2'.length]; exact hz), fun z => absurd z hne, fun _ z => ?_, fun _ _ r o' hr ho' => ?_⟩
    · subst z; cases g2'; rw [List.append_nil] at q; exact q p o xs H3 (e2.trans e3) g1 ho g2
    · exact q r o' _ _ ((e2.trans e3).trans (Ex.new hr)) upd_same ho' ((g2.append g2').mono (Ex.new hr))
/-- the pairs of texts and data -/
theorem pairs_at {α : Type} {e2 : α → PyData} {n : α → Str} : ∀ {l : List α} {xs : List V}, Ims H xs (l.map fun a => .tuple [.str (n a), e2 a]) →
    ∃ (ps : List Addr) (kvs : List (Key × V)), xs = ps.map V.ref ∧ Paired (fun p kv => SqT K H p [kV kv.1, kv.2]) ps kvs ∧ kvs.length = l.length ∧ ∀ q ∈ kvs, ∃ a ∈ l, q.1 = .inr (n a) ∧ Im H q.2 (e2 a)
  | [], _, h => by cases h; exact ⟨[], [], rfl, .nil, rfl, fun q hq => by cases hq⟩
  | a :: l, _, h => by
    cases h with
    | cons h1 h2 =>
      obtain ⟨ps, kvs, rfl, hp, hl, hm⟩ := pairs_at h2
      obtain ⟨p, ys, rfl, g1, g2⟩ := h1.t
      obtain ⟨u, v, rfl, iu, iv⟩ := g2.two
      rw [iu.s] at g1
      refine ⟨p :: ps, (.inr (n a), v) :: kvs, rfl, .cons (SqT.of g1) hp, by rw [List.length_cons, List.length_cons, hl], fun q hq => ?_⟩
      rcases List.mem_cons.mp hq with rfl | hq
      · exact ⟨a, List.mem_cons_self .., rfl, iv⟩
      · obtain ⟨b, hb, r⟩ := hm q hq
        exact ⟨b, List.mem_cons_of_mem _ hb, r⟩
theorem mem_putK {kvs : List (Key × V)} {k : Key} {v : V} {q : Key × V} (h : q ∈ putK kvs k v) : q ∈ kvs ∨ q = (k, v) := by
  unfold putK at h
  split at h
  · obtain ⟨r, hr, e⟩ := List.mem_map.mp h
    by_cases c : r.1 = k
    · rw [if_pos c] at e; right; rw [← e, c]
    · rw [if_neg c] at e; left; rw [← e]; exact hr
  · rcases List.mem_append.mp h with h | h
    · exact .inl h
    · exact .inr (by simpa using h)
theorem mem_mergeK : ∀ {more kvs : List (Key × V)} {q : Key × V}, q ∈ mergeK kvs more → q ∈ kvs ∨ q ∈ more
  | [], _, _, h => .inl h
  | p :: more, kvs, q, h => by
    have h' : q ∈ mergeK (putK kvs p.1 p.2) more := h
    rcases mem_mergeK h' with h | h
    · rcases mem_putK h with h | h
      · exact .inl h
      · exact .inr (by rw [h]; exact List.mem_cons_self ..)
    · exact .inr (List.mem_cons_of_mem _ h)
theorem putK_ne {kvs : List (Key × V)} {k : Key} {v : V} : putK kvs k v ≠ [] := by
  unfold putK
  split
  · rename_i c
    intro z
    cases kvs with
    | nil => simp at c
    | cons a l => simp at z
  · simp
theorem mergeK_ne : ∀ {more kvs : List (Key × V)}, kvs ≠ [] → mergeK kvs more ≠ []
  | [], _, h => h
  | p :: more, kvs, h => by
    show mergeK (putK kvs p.1 p.2) more ≠ []
    exact mergeK_ne putK_ne
/-- tuple(dict(t).items()): rows that are rows of t -/
theorem ep_dictItems {α : Type} {e2 : α → PyData} {n : α → Str} {l : List α} (h : EvF te σ H (l.map fun a => .tuple [.str (n a), e2 a])) (hl : l ≠ []) :
    EvP (tTupItems (tCB (rDictF K) (tCons te tNil))) σ H fun d => ∃ l' : List α, l'.length ≤ l.length ∧ (∀ a ∈ l', ∃ b ∈ l, n a = n b ∧ a = b) ∧ d = .tuple (l'.map fun a => .tuple [.str (n a), e2 a]) := fun H1 e Q q => by
  refine h H1 e _ fun p o xs H2 e2' g1 ho g2 => ?_
  obtain ⟨ps, kvs, rfl, hp, hkl, hm⟩ := pairs_at (K := K) g2
  refine ⟨p, o, ps, kvs, rfl, g1, ho, hp, fun r hr => ?_⟩
  have hk : kvs ≠ [] := fun z => by
    subst z
    exact hl (List.length_eq_zero_iff.mp hkl.symm)
  refine ⟨r, mergeK [] kvs, rfl, ?_, upd_same, fun H' p' ts ex hn ht hpr => ?_⟩
  · cases kvs with
    | nil => exact absurd rfl hk
    | cons a kvs =>
      show mergeK (putK [] a.1 a.2) kvs ≠ []
      exact mergeK_ne putK_ne
  · have e3 : Ex H2 H' := fun a u ha => ex a u ((Ex.new hr) a u ha)
    have key : ∀ (ms : List (Key × V)) (ts : List Addr), (∀ q ∈ ms, q ∈ kvs) → Paired (fun (t : Addr) (q : Key × V) => H' t = some (.tup [kV q.1, q.2])) ts ms →
        ∃ l' : List α, l'.length = ms.length ∧ (∀ a ∈ l', a ∈ l) ∧ Ims H' (ts.map V.ref) (l'.map fun a => .tuple [.str (n a), e2 a]) := by
      intro ms
      induction ms with
      | nil => intro ts _ hq; cases hq; exact ⟨[], rfl, fun a ha => (by cases ha), .nil⟩
      | cons q ms ih =>
        intro ts hin hq
        cases hq with
        | cons hq1 hq2 =>
          obtain ⟨l', h1, h2, h3⟩ := ih _ (fun q hq => hin q (List.mem_cons_of_mem _ hq)) hq2
          obtain ⟨a, ha, e1, ia⟩ := hm q (hin q (List.mem_cons_self ..))
          rw [e1] at hq1
          refine ⟨a :: l', by rw [List.length_cons, List.length_cons, h1], fun b hb => ?_, .cons (.tup hq1 (.cons (.str _) (.cons (ia.mono e3) .nil))) h3⟩
          rcases List.mem_cons.mp hb with rfl | hb
          · exact ha
          · exact h2 b hb
    obtain ⟨l', h1, h2, h3⟩ := key _ _ (fun q hq => (mem_mergeK hq).resolve_left (by simp)) hpr
    refine q _ _ H' (e2'.trans e3) ⟨l', ?_, fun a ha => ⟨a, h2 a ha, rfl, rfl⟩, rfl⟩ (.tup ht h3)
    rw [h1, ← hkl]
    have := length_mergeK kvs []
    simpa using this
theorem ed_cnt {ss : List Str} {k : Str} (h : EvD to σ H (.list (ss.map .str))) (h2 : EvD te σ H (.str k)) : EvD (tBM K "list" (rCntS K) to (tCons te tNil)) σ H (.int (ss.countP fun n => decide (n = k) : Nat)) := fun H1 e Q q =>
  h H1 e _ fun v H2 e2 iv => by
    obtain ⟨p, xs, rfl, g1, g2⟩ := iv.l
    have ex := g2.strs
    subst ex
    refine ⟨Or.inl ⟨rfl, _, SqL.of g1⟩, h2 H2 (e.trans e2) _ fun w H3 e3 iw => ⟨p, ss, k, rfl, by rw [iw.s], SqL.of (e3 _ _ g1), q _ H3 (e2.trans e3) (.int _)⟩⟩
theorem enp_sorted {ss : List Str} (h : EvD te σ H (.list (ss.map .str))) (h64 : ss.length < 64) : EvNP (tCB (rSortedS K) (tCons te tNil)) σ H fun ds => ∃ ys : List Str, ds = ys.map .str ∧ ys.Perm ss ∧ sortedS ys = true := fun H1 e Q q =>
  h H1 e _ fun v H2 e2 iv => by
    obtain ⟨p, xs, rfl, g1, g2⟩ := iv.l
    have ex := g2.strs
    subst ex
    exact ⟨p, ss, rfl, SqL.of g1, h64, fun ys r hp hs hr => q r _ _ _ (fresh_back e2 hr) (e2.trans (Ex.new hr)) ⟨ys, rfl, hp, hs⟩ upd_same (Ims.ofStrs ys)⟩
variable {P P' : PyData → Prop}
theorem ep_callQ {R : List PyData → PyData → Prop} {E : XK} {ta : TA} {PA : List PyData → Prop} (h : ∀ H1, Ex H H1 → ∀ Q : List V → Hp → Prop, (∀ vs ds H2, Ex H1 H2 → PA ds → Ims H2 vs ds → Q vs H2) → ta σ H1 Q) (hd : ∀ ds, PA ds → ∃ d, R ds d ∧ P d) : EvP (tCall (SpQ R) [] E ta) σ H P := fun H1 e Q q =>
  h H1 e _ fun vs ds H2 e2 pa i2 => by
    obtain ⟨d, r, p⟩ := hd ds pa
    exact ⟨ds, d, by rw [List.append_nil]; exact i2, r, fun v H3 e3 i3 => q v d H3 (e2.trans e3) p i3⟩
theorem ea_one (h : EvP te σ H P) : ∀ H1, Ex H H1 → ∀ Q : List V → Hp → Prop, (∀ vs ds H2, Ex H1 H2 → (∃ d, ds = [d] ∧ P d) → Ims H2 vs ds → Q vs H2) → tCons te tNil σ H1 Q := fun H1 e Q q =>
  h H1 e _ fun v d H2 e2 p iv => q _ _ H2 e2 ⟨d, rfl, p⟩ (.cons iv .nil)
theorem EvD.p (h : EvD te σ H d) (hp : P d) : EvP te σ H P := fun H1 e Q q => h H1 e Q fun v H2 e2 iv => q v d H2 e2 hp iv
theorem EvP.w (h : EvP te σ H P) (hp : ∀ d, P d → P' d) : EvP te σ H P' := fun H1 e Q q => h H1 e Q fun v d H2 e2 p iv => q v d H2 e2 (hp d p) iv
theorem ex_B {PB : Bool → Prop} (h : EvP te σ H fun d => ∃ b, d = .bool b ∧ PB b) : EvX (tB te) σ H PB := fun H1 e Q q => h H1 e _ fun v d H2 e2 ⟨b, ed, p⟩ iv => by
  subst ed
  exact ⟨b, iv.b, q b H2 e2 p⟩
theorem ex_T {PB : Bool → Prop} (h : EvP te σ H fun d => ∃ b, d = .bool b ∧ PB b) : EvX (tTest te) σ H PB := fun H1 e Q q => h H1 e _ fun v d H2 e2 ⟨b, ed, p⟩ iv => by
  subst ed
  exact ⟨b, iv.b, q b H2 e2 p⟩
theorem EvT.ex {b : Bool} {PB : Bool → Prop} (h : EvT t σ H b) (hp : PB b) : EvX t σ H PB := fun H1 e Q q => h H1 e Q fun H2 e2 => q b H2 e2 hp
theorem ex_or {PA PB PC : Bool → Prop} (h1 : EvX t σ H PA) (h2 : PA false → EvX u σ H PB) (ht : PA true → PC true) (hf : ∀ b, PA false → PB b → PC b) : EvX (tOr t u) σ H PC := fun H1 e Q q => h1 H1 e _ fun b H2 e2 p => by
  cases b with
  | true =>
    show Q true H2
    exact q true H2 e2 (ht p)
  | false =>
    show u σ H2 Q
    exact h2 p H2 (e.trans e2) Q fun b H3 e3 p3 => q b H3 (e2.trans e3) (hf b p p3)
theorem ex_and {PA PB PC : Bool → Prop} (h1 : EvX t σ H PA) (h2 : PA true → EvX u σ H PB) (hf : PA false → PC false) (ht : ∀ b, PA true → PB b → PC b) : EvX (tAnd t u) σ H PC := fun H1 e Q q => h1 H1 e _ fun b H2 e2 p => by
  cases b with
  | false =>
    show Q false H2
    exact q false H2 e2 (hf p)
  | true =>
    show u σ H2 Q
    exact h2 p H2 (e.trans e2) Q fun b H3 e3 p3 => q b H3 (e2.trans e3) (ht b p p3)
theorem ex_not {PA : Bool → Prop} (h1 : EvX t σ H PA) : EvX (tNot t) σ H (fun b => PA (!b)) := fun H1 e _ q => h1 H1 e _ fun b H2 e2 p => q (!b) H2 e2 (by show PA (!(!b)); rw [Bool.not_not]; exact p)
theorem mk_fP {ta : TA} {C : Addr} {f : Str} {Q : XK} (h : ∀ H1, Ex H H1 → ∀ Q : List V → Hp → Prop, (∀ vs ds H2, Ex H1 H2 → (∃ d, ds = [d] ∧ P d) → Ims H2 vs ds → Q vs H2) → ta σ H1 Q) (k : ∀ v d dd H2, Ex H H2 → P d → Im H2 v d → H2 dd = some (.xd [(f, v)]) → Q (.ref C) (some dd) H2) : tMkO C (sp_fld C f) [] ta σ H Q := by
  refine h H (Ex.refl H) _ fun vs ds H1 e1 ⟨d, ed, p⟩ iv => ?_
  subst ed
  obtain ⟨v, rfl, i1⟩ := iv.one
  exact mk_f (σ := []) (d := d) (ta := tCons (tC v) tNil) (H := H1) (ea1 (ed_c i1) ea0) (fun v' dd H2 e2 iv' hdd => k v' d dd H2 (e1.trans e2) p iv' hdd)
variable {D : Ends} {tu tz : TS}
theorem q_whenX {PB : Bool → Prop} (h : EvX t σ H PB) (h1 : PB true → ∀ H1, Ex H H1 → tu { D with nx := tz D } σ H1) (h2 : PB false → ∀ H1, Ex H H1 → tz D σ H1) : tSeq (tIfS t tu tNext) tz D σ H := h H (Ex.refl H) _ fun b H1 e p => by
  cases b with
  | true =>
    show tu _ σ H1
    exact h1 p H1 e
  | false =>
    show tz D σ H1
    exact h2 p H1 e
theorem s_whenX {PB : Bool → Prop} (h : EvX t σ H PB) (h1 : PB true → ∀ H1, Ex H H1 → tu D σ H1) (h2 : PB false → ∀ H1, Ex H H1 → D.nx σ H1) : tIfS t tu tNext D σ H := h H (Ex.refl H) _ fun b H1 e p => by
  cases b with
  | true =>
    show tu _ σ H1
    exact h1 p H1 e
  | false =>
    show D.nx σ H1
    exact h2 p H1 e
theorem q_asgP {i : Nat} (h : EvP te σ H P) (k : ∀ v d H1, Ex H H1 → P d → Im H1 v d → tz D (σ.set i (some v)) H1) : tSeq (tAsg te (gName i)) tz D σ H := h H (Ex.refl H) _ fun v d H1 e p iv => k v d H1 e p iv
theorem q_asgNP {i : Nat} {PL : List PyData → Prop} (h : EvNP te σ H PL) (k : ∀ p xs ds H1, H p = none → Ex H H1 → PL ds → H1 p = some (.lst xs) → Ims H1 xs ds → tz D (σ.set i (some (.ref p))) H1) : tSeq (tAsg te (gName i)) tz D σ H := h H (Ex.refl H) _ fun p xs ds H1 n e pl a b => k p xs ds H1 n e pl a b
theorem EvNP.toP {PL : List PyData → Prop} (h : EvNP te σ H PL) : EvP te σ H fun d => ∃ ds, d = .list ds ∧ PL ds := fun H1 e Q q => h H1 e Q fun p xs ds H2 n e2 pl a b => q _ _ H2 e2 ⟨ds, rfl, pl⟩ (.lst a b)
end
end Pd
set_option Elab.async false
set_option linter.all false
set_option maxRecDepth 100000
set_option maxHeartbeats 2000000
/-! Dt: ints, lists that change, the tape. -/
namespace Pd
open PySem PyProof.Rows L2 Evl
section
variable {K : PySem.W.Frag} {σ : L2.St} {H H' : Hp} {ta tb te tx tl to : TE} {t u : TT} {x y z v : V} {d d' e' : PyData} {ds es : List PyData}
abbrev rInt1 : List V → Hp → VK → Prop := fun xs H Q => (∃ i, xs = [.int i] ∧ Q (.int i) H) ∨ ∃ k, xs = [.bl k] ∧ Q (.int (if k then 1 else 0)) H
theorem ed_int1 {i : Int} (h : EvD te σ H (.int i)) : EvD (tCB rInt1 (tCons te tNil)) σ H (.int i) :=
  ed_cb (ea1 h ea0) fun vs H1 e iv Q q => by
    obtain ⟨v, rfl, i1⟩ := iv.one
    rw [i1.i]
    exact .inl ⟨i, rfl, q _ H1 (Ex.refl H1) (.int _)⟩
abbrev rAbs : List V → Hp → VK → Prop := fun xs H Q => ∃ i, xs = [.int i] ∧ Q (.int (if i < 0 then -i else i)) H
theorem ed_abs {i : Int} (h : EvD te σ H (.int i)) : EvD (tCB rAbs (tCons te tNil)) σ H (.int (if i < 0 then -i else i)) :=
  ed_cb (ea1 h ea0) fun vs H1 e iv Q q => by
    obtain ⟨v, rfl, i1⟩ := iv.one
    rw [i1.i]
    exact ⟨i, rfl, q _ H1 (Ex.refl H1) (.int _)⟩
theorem Ims.ofInts : ∀ ss : List Int, Ims H (ss.map V.int) (ss.map PyData.int)
  | [] => .nil
  | s :: ss => .cons (.int s) (Ims.ofInts ss)
theorem Ims.ints : ∀ {ss : List Int} {vs : List V}, Ims H vs (ss.map PyData.int) → vs = ss.map V.int
  | [], _, h => by cases h; rfl
  | s :: ss, _, h => by cases h with | cons h1 h2 => rw [h1.i, Ims.ints h2]; rfl
/-- over a list that is read: of the script, too -/
theorem wk_sq {a : Addr} {xs : List V} (h : Ev tl σ H (.ref a)) (hx : SqL K H a xs) (g2 : Ims H xs ds) : Wk (iList K tl) σ H ds := fun H1 e R r =>
  h H1 e _ fun H2 e2 => by
    have hx := ex_l (e.trans e2) hx
    have g2 := g2.mono (e.trans e2)
    refine ⟨a, rfl, ⟨xs, hx⟩, r _ H2 (fun H => SqL K H a xs) (YAt xs) e2 (by rw [← g2.length]; exact walk_list) (fun H3 e3 => ex_l e3 hx) fun i H3 x H4 e3 yy => ?_⟩
    obtain ⟨rfl, hx⟩ := yy
    obtain ⟨d, hd, im⟩ := (g2.mono e3).get hx
    exact ⟨Ex.refl _, d, hd, im⟩
theorem Wk.m {wi : TI} {src : List PyData} (h : Wk wi σ H src) : WkM [] wi σ H src := fun H1 e R r => h H1 e R fun J H2 G Y e2 W hG hY => r J H2 G Y e2 W (fun H3 e3 => hG H3 e3.ex) fun i H3 x H4 e3 yy => hY i H3 x H4 e3.ex yy
theorem WkM.wk {wi : TI} {src : List PyData} (h : WkM [] wi σ H src) : Wk wi σ H src := fun H1 e R r => h H1 e R fun J H2 G Y e2 W hG hY => r J H2 G Y e2 W (fun H3 e3 => hG H3 (ExM.of e3)) fun i H3 x H4 e3 yy => hY i H3 x H4 (ExM.of e3) yy
/-! ### frames -/
theorem ExM.mut {M : List Addr} {p : Addr} {o : HO} (e : ExM M H H') (h : H p = none) : ExM M H (L2.upd H' p o) :=
  ⟨fun a u n ha => by rw [upd_ne (fun z => by rw [z, h] at ha; cases ha)]; exact e.1 a u n ha, fun a xs ha => by rw [upd_ne (fun z => by rw [z, h] at ha; cases ha)]; exact e.2 a xs ha⟩
theorem ExM.fresh {M : List Addr} {p : Addr} (e : ExM M H H') (hM : p ∉ M) (h : H' p = none) : H p = none := by
  cases c : H p with
  | none => rfl
  | some o => rw [e.1 p o hM c] at h; cases h
/-- the tape: a list at t of the list of numbers at c, and the seed -/
structure Tape (t c : Addr) (H : Hp) : Prop where
  ne : t ≠ c
  at_t : ∃ s : Int, H t = some (.lst [.ref c, .int s]) ∧ 0 ≤ s ∧ s ≤ 2147483647
  at_c : ∃ ns : List Int, H c = some (.lst (ns.map V.int)) ∧ ns.length ≤ 63 ∧ ∀ n ∈ ns, 0 ≤ n
theorem Tape.ex {t c : Addr} (T : Tape t c H) (e : Ex H H') : Tape t c H' := by
  obtain ⟨ne, ⟨s, h1, h2⟩, ⟨ns, h3, h4⟩⟩ := T
  exact ⟨ne, ⟨s, e _ _ h1, h2⟩, ⟨ns, e _ _ h3, h4⟩⟩
theorem Tape.upd {t c p : Addr} {o : HO} (T : Tape t c H) (h1 : p ≠ t) (h2 : p ≠ c) : Tape t c (L2.upd H p o) := by
  obtain ⟨ne, ⟨s, g1, g2⟩, ⟨ns, g3, g4⟩⟩ := T
  exact ⟨ne, ⟨s, by rw [upd_ne (fun z => h1 z.symm)]; exact g1, g2⟩, ⟨ns, by rw [upd_ne (fun z => h2 z.symm)]; exact g3, g4⟩⟩
theorem Tape.some_t {t c : Addr} (T : Tape t c H) : H t ≠ none := by
  obtain ⟨_, ⟨s, h1, _⟩, _⟩ := T
  rw [h1]; simp
theorem Tape.some_c {t c : Addr} (T : Tape t c H) : H c ≠ none := by
  obtain ⟨_, _, ⟨s, h1, _⟩⟩ := T
  rw [h1]; simp
theorem Tape.notin {t c p : Addr} (T : Tape t c H) (h : H p = none) : p ∉ [t, c] := fun z => by
  rcases List.mem_cons.mp z with rfl | z
  · exact T.some_t h
  · rcases List.mem_cons.mp z with rfl | z
    · exact T.some_c h
    · cases z
/-- later: what is not the tape stays, the tape stays one -/
def Go (t c : Addr) (H H' : Hp) : Prop := ExM [t, c] H H' ∧ Tape t c H'
theorem Go.trans {t c : Addr} {H1 : Hp} (a : Go t c H H1) (b : Go t c H1 H') : Go t c H H' := ⟨a.1.trans b.1, b.2⟩
theorem Go.of {t c : Addr} (T : Tape t c H) (e : Ex H H') : Go t c H H' := ⟨ExM.of e, T.ex e⟩
theorem Go.ex {t c : Addr} {H1 : Hp} (a : Go t c H H1) (e : Ex H1 H') : Go t c H H' := ⟨a.1.trans (ExM.of e), a.2.ex e⟩
theorem Go.refl {t c : Addr} (T : Tape t c H) : Go t c H H := ⟨ExM.refl _ _, T⟩
theorem Go.at {t c p : Addr} {o : HO} (g : Go t c H H') (hp : p ∉ [t, c]) (h : H p = some o) : H' p = some o := g.1.1 p o hp h
theorem Go.im {t c : Addr} (g : Go t c H H') (s : still d = true) (h : Im H v d) : Im H' v d := h.tx g.1.2 s
/-- one whole number below m is drawn -/
def sp_draw : Sp := fun vs H Q _ => ∃ (t c : Addr) (m : Nat), vs = [.ref t, .int (m : Nat)] ∧ Tape t c H ∧ 1 ≤ m ∧ m ≤ 1000 ∧ ∀ r : Nat, r < m → ∀ H', Go t c H H' → Q (.int (r : Nat)) H'
def sp_tape (K : PySem.W.Frag) : Sp := fun vs H Q _ => ∃ (a : Addr) (ns : List Int), vs = [.ref a] ∧ SqL K H a (ns.map V.int) ∧ ns.length ≤ 63 ∧ ∀ t c H', Ex H H' → Tape t c H' → Q (.ref t) H'
def sp_pick : Sp := fun vs H Q _ => ∃ (t c p : Addr) (xs : List V), vs = [.ref t, .ref p] ∧ Tape t c H ∧ p ∉ [t, c] ∧ H p = some (.lst xs) ∧ xs ≠ [] ∧ xs.length ≤ 1000 ∧ ∀ (i : Nat) (x : V), xs[i]? = some x → ∀ H', Go t c H H' → Q x H'
theorem drawn {it : Nat} {t c : Addr} {m : Nat} {Q : VK} {E : XK} (ht : σ[it]? = some (some (.ref t))) (T : Tape t c H) (hm : EvD tb σ H (.int (m : Nat))) (h1 : 1 ≤ m) (h2 : m ≤ 1000) (k : ∀ r : Nat, r < m → ∀ H', Go t c H H' → Q (.int (r : Nat)) H') :
    tCall sp_draw [] E (tCons (tVar it) (tCons tb tNil)) σ H Q := (ea_cons (ev_var ht) (ea_cons hm.evI ea_nil)) H (Ex.refl H) _ fun H2 e2 =>
  ⟨t, c, m, rfl, T.ex e2, h1, h2, fun r hr H' g => k r hr H' ((Go.of T e2).trans g)⟩
theorem picked {it : Nat} {t c p : Addr} {xs : List V} {Q : VK} {E : XK} (ht : σ[it]? = some (some (.ref t))) (T : Tape t c H) (hp : Ev tb σ H (.ref p)) (hn : p ∉ [t, c]) (hx : H p = some (.lst xs)) (h1 : xs ≠ []) (h2 : xs.length ≤ 1000) (k : ∀ (i : Nat) (x : V), xs[i]? = some x → ∀ H', Go t c H H' → Q x H') :
    tCall sp_pick [] E (tCons (tVar it) (tCons tb tNil)) σ H Q := (ea_cons (ev_var ht) (ea_cons hp ea_nil)) H (Ex.refl H) _ fun H2 e2 =>
  ⟨t, c, p, xs, rfl, T.ex e2, hn, e2 _ _ hx, h1, h2, fun i x hx H' g => k i x hx H' ((Go.of T e2).trans g)⟩
variable {D : Ends}
theorem s_pop0 {l : Addr} {xs : List V} (hl : H l = some (.lst (x :: xs))) (ha : Ev ta σ H (.ref l)) (h : Ev te σ H (.int 0)) (k : ∀ H1, Ex H H1 → D.nx σ (L2.upd H1 l (.lst xs))) : tDrop (tBM K "list" rPopAt ta (tCons te tNil)) D σ H :=
  ha H (Ex.refl H) _ fun H1 e1 => ⟨Or.inl ⟨rfl, _, sq_of (e1 l _ hl)⟩, h H1 e1 _ fun H2 e2 => ⟨l, x :: xs, 0, 0, x, rfl, rfl, (e1.trans e2) l _ hl, by decide, by decide, by simp [seqIndex?], rfl, k H2 (e1.trans e2)⟩⟩
/-- one operand, then the other -/
theorem op_run {r : R2} {Q : VK} (ha : Ev ta σ H x) (k : ∀ H1, Ex H H1 → tb σ H1 fun y H2 => r x y H2 Q) : tOp r ta tb σ H Q := ha H (Ex.refl H) _ k
theorem s_retOp {r : R2} (ha : Ev ta σ H x) (k : ∀ H1, Ex H H1 → tb σ H1 fun y H2 => r x y H2 D.rt) : tRet (tOp r ta tb) D σ H := ha H (Ex.refl H) _ k
end
end Pd
set_option Elab.async false
set_option linter.all false
set_option maxRecDepth 100000
set_option maxHeartbeats 2000000
/-! Dt2: draws within expressions. -/
namespace Pd
open PySem PyProof.Rows L2 Evl
theorem Go.mut {t c p : Addr} {o : HO} {H H' : Hp} (g : Go t c H H') (T : Tape t c H) (hp : H p = none) : Go t c H (L2.upd H' p o) := by
  have n := T.notin hp
  refine ⟨g.1.mut hp, g.2.upd (fun z => n (by rw [z]; simp)) (fun z => n (by rw [z]; simp))⟩
section
variable {K : PySem.W.Frag} {σ : L2.St} {H H' : Hp} {ta tb te tx tl to : TE} {t u : TT} {x y z v : V} {d d' e' : PyData} {ds es : List PyData} {D : Ends} {tu tz : TS}
theorem sl_runN {th : TO} {Q : VK} (h : EvN te σ H ds) (k : ∀ p xs H1, H p = none → Ex H H1 → H1 p = some (.lst xs) → Ims H1 xs ds → th σ H1 fun hi H2 => rSlL K (.ref p) none hi H2 Q) : tSl (rSlL K) te tNoPart th σ H Q := h H (Ex.refl H) _ fun p xs H1 n e a b => k p xs H1 n e a b
/-- 1 + a drawn number -/
theorem one_more {t c : Addr} {m : Nat} {Q : VK} {E : XK} (ht : σ[0]? = some (some (.ref t))) (T : Tape t c H) (h1 : 1 ≤ m) (h2 : m ≤ 1000) (k : ∀ r : Nat, r < m → ∀ H', Go t c H H' → Q (.int ((1 + r : Nat) : Int)) H') :
    tOp (rI0 fun i j => .int (i + j)) (tC (.int 1)) (tCall sp_draw [] E (tCons (tVar 0) (tCons (tC (.int (m : Nat))) tNil))) σ H Q :=
  op_run ev_c fun H1 e1 => drawn ht (T.ex e1) (ed_i _) h1 h2 fun r hr H' g => ⟨1, r, rfl, rfl, by
    have := k r hr H' ((Go.of T e1).trans g)
    have e : ((1 + r : Nat) : Int) = 1 + (r : Int) := by omega
    rw [e] at this
    exact this⟩
/-- a drawn number == 0 -/
theorem draw_zero {t c : Addr} {m : Nat} {Q : Bool → Hp → Prop} {E : XK} (ht : σ[0]? = some (some (.ref t))) (T : Tape t c H) (h1 : 1 ≤ m) (h2 : m ≤ 1000) (k : ∀ (b : Bool) H', Go t c H H' → Q b H') :
    tTest (tOp rEq (tCall sp_draw [] E (tCons (tVar 0) (tCons (tC (.int (m : Nat))) tNil))) (tC (.int 0))) σ H Q :=
  drawn ht T (ed_i _) h1 h2 fun r hr H' g => ⟨rfl, decide (V.int (r : Nat) = V.int 0), rfl, k _ H' g⟩
/-- [x for x in l if a drawn number is 0] -/
theorem lc_draws {t c : Addr} {m j : Nat} {vs : List Nat} {l : List Str} {Q : VK} {E : XK} (hl : EvN tl σ H (l.map .str)) (hz : l.length ≤ 1000) (T : Tape t c H) (h1 : 1 ≤ m) (h2 : m ≤ 1000)
    (ht : ∀ x, ((wipe σ vs).set j (some x))[0]? = some (some (.ref t))) (hj : ∀ x, ((wipe σ vs).set j (some x))[j]? = some (some x)) (hw : ∀ x, wipe ((wipe σ vs).set j (some x)) vs = wipe σ vs)
    (k : ∀ p (ws : List Str) H', Go t c H H' → H p = none → ws.Sublist l → H' p = some (.lst (ws.map V.str)) → Q (.ref p) H') :
    tLc (iList K tl) (gName j) (tTest (tOp rEq (tCall sp_draw [] E (tCons (tVar 0) (tCons (tC (.int (m : Nat))) tNil))) (tC (.int 0)))) (tVar j) vs σ H Q := by
  refine hl H (Ex.refl H) _ fun p0 xs H2 n0 e2 g1 g2 => ?_
  have exs := g2.strs
  subst exs
  have T2 := T.ex e2
  have np0 : p0 ∉ [t, c] := T.notin n0
  refine ⟨p0, rfl, ⟨l.map V.str, SqL.of g1⟩, fun Dl hD => ?_⟩
  have W := walk_list (K := K) (a := p0) (xs := l.map V.str)
  refine lc_it W (fun i H' => Go t c H2 H' ∧ ∃ acc : List Str, acc.Sublist (l.take i) ∧ acc.length ≤ i ∧ H' Dl = some (.lst (acc.map V.str)))
    ⟨(Go.refl T2).mut T2 hD, [], List.nil_sublist _, Nat.le_refl _, upd_same⟩ (fun i H' _ p => SqL.of (p.1.at np0 g1)) (fun i x H3 H4 hi p y => ?_) fun H' p => ?_
  · obtain ⟨rfl, hx⟩ := y
    obtain ⟨g, acc, q1, q2, q3⟩ := p
    rw [List.getElem?_map] at hx
    obtain ⟨s, hs, rfl⟩ : ∃ s, l[i]? = some s ∧ V.str s = x := by
      cases e : l[i]? with
      | none => rw [e] at hx; cases hx
      | some r => rw [e] at hx; exact ⟨r, rfl, Option.some.inj hx⟩
    refine ⟨hw _, draw_zero (ht _) g.2 h1 h2 fun b H5 g5 => ?_⟩
    have D5 : H5 Dl = some (.lst (acc.map V.str)) := g5.at (T2.notin hD) q3
    have g25 := g.trans g5
    cases b with
    | true =>
      refine ⟨.str s, hj _, acc.map V.str, D5, ?_, g25.mut T2 hD, acc ++ [s], ?_, by rw [List.length_append]; show _ + 1 ≤ _; omega, by rw [List.map_append]; exact upd_same⟩
      · have : i < (l.map V.str).length := hi
        rw [List.length_map] at this
        exact sz_lt (by rw [List.length_map]; omega)
      · rw [take_more hs]
        exact List.Sublist.append q1 (List.Sublist.refl _)
    | false =>
      show Go t c H2 H5 ∧ _
      refine ⟨g25, acc, ?_, by omega, D5⟩
      rw [take_more hs]
      exact q1.trans (List.sublist_append_left _ _)
  · obtain ⟨g, acc, q1, q2, q3⟩ := p
    rw [List.length_map, List.take_length] at q1
    exact k Dl acc H' ((Go.of T e2).trans g) (fresh_back e2 hD) q1 q3
/-- what is walked, with all that the walk's making does -/
def Run (wi : TI) (σ : L2.St) (H : Hp) (M : List Addr) (C : List PyData → Hp → Prop) : Prop := ∀ R : It → Hp → Prop,
  (∀ J H2 G Y src, C src H2 → Walk J src.length G Y → (∀ H3, ExM M H2 H3 → G H3) → (∀ i H3 x H4, ExM M H2 H3 → Y i H3 x H4 → Ex H3 H4 ∧ ∃ d, src[i]? = some d ∧ Im H4 x d) → R J H2) → wi σ H R
theorem run_range {M : List Addr} {ta : TA} {C : List PyData → Hp → Prop} (h : ∀ Q : List V → Hp → Prop, (∀ (n : Nat) H1, n ≤ 100000 → C ((List.range n).map fun i => .int (i : Nat)) H1 → Q [.int (n : Nat)] H1) → ta σ H Q) : Run (iRng1 ta) σ H M C := fun R r => by
  refine h _ fun n H2 hn hc => ⟨(n : Int), rfl, by omega, by omega, r _ H2 (fun _ => True) (fun i H x H' => i < n ∧ H' = H ∧ x = .int (0 + (i : Int))) _ hc (by
      have : ((List.range n).map fun i => PyData.int (i : Nat)).length = (n : Int).toNat := by simp
      rw [this]
      exact ⟨fun _ _ hi _ => hi, fun _ _ => Nat.le_refl _, fun i _ _ _ hi _ y => ⟨by simpa using hi, y.1, y.2⟩⟩) (fun _ _ => trivial) fun i H3 x H4 e3 yy => ?_⟩
  obtain ⟨hi', rfl, rfl⟩ := yy
  have e0 : (0 : Int) + (i : Int) = (i : Int) := Int.zero_add _
  refine ⟨Ex.refl _, .int (i : Nat), ?_, by show Im H4 (.int ((0 : Int) + (i : Int))) _; rw [e0]; exact .int _⟩
  have hi := hi'
  simp [hi]
theorem run_of {wi : TI} {M : List Addr} {src : List PyData} (h : WkM M wi σ H src) : Run wi σ H M (fun s H1 => s = src ∧ Ex H H1) := fun R r => h H (Ex.refl H) R fun J H2 G Y e2 W hG hY => r J H2 G Y src ⟨rfl, e2⟩ W hG hY
/-- THE FOR over what is made, Pv by the turn -/
theorem s_forR {wi : TI} {g : TG} (M : List Addr) {C : List PyData → Hp → Prop} (hk : Run wi σ H M C)
    (h : ∀ src H2, C src H2 → ∃ Pv : Nat → L2.St → Hp → Prop, Pv 0 σ H2 ∧ (∀ i σ' H3 H4, Pv i σ' H3 → Ex H3 H4 → Pv i σ' H4) ∧
      (∀ i d x σ' H3 H4, src[i]? = some d → Ex H3 H4 → Im H4 x d → Pv i σ' H4 → g x σ' H4 fun σ2 H5 => tu { D with nx := fun σ3 H6 => Pv (i + 1) σ3 H6 ∧ ExM M H3 H6, ct := fun σ3 H6 => Pv (i + 1) σ3 H6 ∧ ExM M H3 H6, bk := D.nx } σ2 H5) ∧
      (∀ σ' H', Pv src.length σ' H' → D.nx σ' H')) : tFor wi g tu D σ H := by
  refine hk _ fun J H2 G Y src hc W hG hY => ?_
  obtain ⟨Pv, h0, hm, hs, hd⟩ := h src H2 hc
  refine ⟨fun i m σ' H' => m = src.length - i ∧ i ≤ src.length ∧ Pv i σ' H' ∧ ExM M H2 H', ⟨src.length, by simp, Nat.zero_le _, h0, ExM.refl M H2⟩, ?_⟩
  rintro i m σ' H3 ⟨rfl, hi, p, e3⟩
  by_cases hlt : i < src.length
  · refine .inr ⟨W.goes i H3 hlt (hG H3 e3), fun σ3 H6 => Pv (i + 1) σ3 H6 ∧ ExM M H3 H6, fun σ3 H6 q => ⟨src.length - (i + 1), by omega, rfl, hlt, q.1, e3.trans q.2⟩, fun x H4 y => ?_⟩
    obtain ⟨e34, d, hd', im⟩ := hY i H3 x H4 e3 (W.yields i H3 x H4 hlt (hG H3 e3) y)
    exact hs i d x σ' H3 H4 hd' e34 im (hm i σ' H3 H4 p e34)
  · have e : i = src.length := by omega
    subst e
    exact .inl ⟨W.stops H3 (hG H3 e3), hd σ' H3 p⟩
theorem q_forR {wi : TI} {g : TG} (M : List Addr) {C : List PyData → Hp → Prop} (hk : Run wi σ H M C)
    (h : ∀ src H2, C src H2 → ∃ Pv : Nat → L2.St → Hp → Prop, Pv 0 σ H2 ∧ (∀ i σ' H3 H4, Pv i σ' H3 → Ex H3 H4 → Pv i σ' H4) ∧
      (∀ i d x σ' H3 H4, src[i]? = some d → Ex H3 H4 → Im H4 x d → Pv i σ' H4 → g x σ' H4 fun σ2 H5 => tu { D with nx := fun σ3 H6 => Pv (i + 1) σ3 H6 ∧ ExM M H3 H6, ct := fun σ3 H6 => Pv (i + 1) σ3 H6 ∧ ExM M H3 H6, bk := tz D } σ2 H5) ∧
      (∀ σ' H', Pv src.length σ' H' → tz D σ' H')) : tSeq (tFor wi g tu) tz D σ H := s_forR (D := { D with nx := tz D }) M hk h
variable {P : PyData → Prop}
/-- xs.append(e), e known by what holds of it -/
theorem s_appP {l : Addr} {xs : List V} (hl : H l = some (.lst xs)) (ha : Ev ta σ H (.ref l)) (h : EvP te σ H P) (hs : ∀ d, P d → still d = true) (hz : xs.length < 100000) (k : ∀ v d H1, Ex H H1 → H1 l = some (.lst xs) → P d → Im (L2.upd H1 l (.lst (xs ++ [v]))) v d → D.nx σ (L2.upd H1 l (.lst (xs ++ [v])))) :
    tDrop (tBM K "list" rAppend ta (tCons te tNil)) D σ H := ha H (Ex.refl H) _ fun H1 e1 =>
  ⟨Or.inl ⟨rfl, xs, sq_of (e1 l _ hl)⟩, h H1 e1 _ fun v d H2 e2 p iv => ⟨l, xs, v, rfl, rfl, e2 l _ (e1 l _ hl), sz_lt hz, k v d H2 (e1.trans e2) (e2 l _ (e1 l _ hl)) p (iv.tx (tx_lst (e2 l _ (e1 l _ hl))) (hs d p))⟩⟩
/-- xs.append(a picked one) -/
theorem s_appPick {t c l p : Addr} {xs ys : List V} {E : XK} (hl : H l = some (.lst xs)) (ha : Ev ta σ H (.ref l)) (ht : σ[0]? = some (some (.ref t))) (T : Tape t c H) (hln : l ∉ [t, c]) (hp : Ev tb σ H (.ref p)) (hn : p ∉ [t, c]) (hx : H p = some (.lst ys)) (h1 : ys ≠ []) (h2 : ys.length ≤ 1000) (hz : xs.length < 100000)
    (k : ∀ (i : Nat) (x : V), ys[i]? = some x → ∀ H', Go t c H H' → H' l = some (.lst xs) → D.nx σ (L2.upd H' l (.lst (xs ++ [x])))) :
    tDrop (tBM K "list" rAppend ta (tCons (tCall sp_pick [] E (tCons (tVar 0) (tCons tb tNil))) tNil)) D σ H := ha H (Ex.refl H) _ fun H1 e1 =>
  ⟨Or.inl ⟨rfl, xs, sq_of (e1 l _ hl)⟩, picked ht (T.ex e1) (hp.mono e1) hn (e1 _ _ hx) h1 h2 fun i x hx H' g => ⟨l, xs, x, rfl, rfl, g.at hln (e1 _ _ hl), sz_lt hz, k i x hx H' ((Go.of T e1).trans g) (g.at hln (e1 _ _ hl))⟩⟩
theorem q_asgRun {i : Nat} (h : te σ H fun v H1 => tz D (σ.set i (some v)) H1) : tSeq (tAsg te (gName i)) tz D σ H := h
theorem part_run {Q : Option Int → Hp → Prop} (h : te σ H fun x H1 => ∃ i, x = .int i ∧ Q (some i) H1) : tPart te σ H Q := h
theorem q_or2 {tA tB : TT} {b1 : Bool} (h : EvT tA σ H b1) (h1 : b1 = true → ∀ H1, Ex H H1 → tu { D with nx := tz D } σ H1) (h2 : b1 = false → ∀ H1, Ex H H1 → tB σ H1 fun b H2 => if b = true then tu { D with nx := tz D } σ H2 else tz D σ H2) : tSeq (tIfS (tOr tA tB) tu tNext) tz D σ H := h H (Ex.refl H) _ fun H1 e => by
  cases b1 with
  | true => exact h1 rfl H1 e
  | false => exact h2 rfl H1 e
theorem cutV_to (k : Nat) (ds : List V) : cutV ds none (some (k : Int)) = ds.take k := by
  unfold cutV
  rw [HT.sIx_nat, HT.sIx_none, List.drop_zero, Nat.sub_zero]
  rcases Nat.le_total k ds.length with h | h
  · rw [Nat.min_eq_left h]
  · rw [Nat.min_eq_right h, List.take_of_length_le (Nat.le_refl _), List.take_of_length_le h]
theorem ep_tupOf {PL : List PyData → Prop} (h : EvNP te σ H PL) : EvP (tCB (rTupOf K) (tCons te tNil)) σ H (fun d => ∃ ds, d = .tuple ds ∧ PL ds) := fun H1 e Q q =>
  h H1 e _ fun p xs ds H2 n e2 pl a b => ⟨p, xs, rfl, .inl ⟨SqL.of a, fun l hl => q _ _ _ (e2.trans (Ex.new hl)) ⟨ds, rfl, pl⟩ (.tup upd_same (b.mono (Ex.new hl)))⟩⟩
end
end Pd
set_option Elab.async false
set_option linter.all false
set_option maxRecDepth 100000
set_option maxHeartbeats 2000000
/-! Dt3: what is left beside the tape. -/
namespace Pd
open PySem PyProof.Rows L2 Evl
section
variable {K : PySem.W.Frag} {σ : L2.St} {H H' : Hp} {ta tb te tx tl to : TE} {t u : TT} {x y z v : V} {d d' e' : PyData} {ds es : List PyData} {D : Ends} {tu tz : TS} {tp c : Addr}
theorem call_run {sp : Sp} {E : XK} {ta : TA} {vs : List V} {Q : VK} (h : EvA ta σ H vs) (k : ∀ H1, Ex H H1 → sp (vs ++ []) H1 Q E) : tCall sp [] E ta σ H Q := h H (Ex.refl H) _ k
/-- texts in a list, the tape drawn from meanwhile -/
def EvGL (tp c : Addr) (te : TE) (σ : L2.St) (H : Hp) (P : List Str → Prop) : Prop := ∀ Q : VK, (∀ p ls H2, Go tp c H H2 → H p = none → H2 p = some (.lst (ls.map V.str)) → P ls → Q (.ref p) H2) → te σ H Q
theorem eg_of {ls : List Str} {P : List Str → Prop} (T : Tape tp c H) (h : EvN te σ H (ls.map .str)) (hp : P ls) : EvGL tp c te σ H P := fun Q q => h H (Ex.refl H) Q fun p xs H2 n e a b => by
  have ex := b.strs
  subst ex
  exact q p ls H2 (Go.of T e) n a hp
theorem eg_cat {P P' : List Str → Prop} (ha : EvGL tp c ta σ H P) (T : Tape tp c H) (hb : ∀ H1, Go tp c H H1 → EvGL tp c tb σ H1 P') (hz : ∀ l m, P l → P' m → l.length + m.length ≤ 100000) : EvGL tp c (tOp rCat ta tb) σ H (fun x => ∃ l m, P l ∧ P' m ∧ x = l ++ m) := fun Q q =>
  ha _ fun p ls H1 g n a p1 => hb H1 g _ fun p' ms H2 g' n' a' p2 => by
    have e2 := g'.at (T.notin n) a
    refine ⟨p, p', _, _, rfl, rfl, e2, a', sz_of (by rw [List.length_map, List.length_map]; exact hz _ _ p1 p2), fun r hr => ?_⟩
    refine q r (ls ++ ms) _ ((g.trans g').ex (Ex.new hr)) ?_ (by rw [List.map_append]; exact upd_same) ⟨ls, ms, p1, p2, rfl⟩
    cases c0 : H r with
    | none => rfl
    | some o =>
      by_cases hm : r ∈ [tp, c]
      · exfalso
        have T2 := (g.trans g').2
        rcases List.mem_cons.mp hm with rfl | hm
        · exact T2.some_t hr
        · rcases List.mem_cons.mp hm with rfl | hm
          · exact T2.some_c hr
          · cases hm
      · rw [(g.trans g').at hm c0] at hr
        cases hr
theorem q_asgGL {i : Nat} {P : List Str → Prop} (h : EvGL tp c te σ H P) (k : ∀ p ls H2, Go tp c H H2 → H p = none → H2 p = some (.lst (ls.map V.str)) → P ls → tz D (σ.set i (some (.ref p))) H2) : tSeq (tAsg te (gName i)) tz D σ H := h _ k
/-- arguments of which none is the tape -/
def Off (tp c : Addr) (v : V) : Prop := v ≠ .ref tp ∧ v ≠ .ref c
def EvO1 (tp c : Addr) (te : TE) (σ : L2.St) (H : Hp) (d : PyData) : Prop := ∀ H1, Ex H H1 → ∀ Q : VK, (∀ v H2, Ex H1 H2 → Im H2 v d → Off tp c v → Q v H2) → te σ H1 Q
def EvOs (tp c : Addr) (ta : TA) (σ : L2.St) (H : Hp) (ds : List PyData) : Prop := ∀ H1, Ex H H1 → ∀ Q : List V → Hp → Prop, (∀ vs H2, Ex H1 H2 → Ims H2 vs ds → (∀ v ∈ vs, Off tp c v) → Q vs H2) → ta σ H1 Q
theorem Tape.off {p : Addr} (T : Tape tp c H) (h : H p = none) : Off tp c (.ref p) := by
  have n := T.notin h
  exact ⟨fun z => n (by cases z; simp), fun z => n (by cases z; simp)⟩
theorem eo_new (T : Tape tp c H) (h : EvN te σ H ds) : EvO1 tp c te σ H (.list ds) := fun H1 e Q q => h H1 e Q fun p xs H2 n e2 a b => q _ H2 e2 (.lst a b) ((T.ex e).off n)
theorem eo_tup (T : Tape tp c H) (h : EvD te σ H (.tuple ds)) : EvO1 tp c te σ H (.tuple ds) := fun H1 e Q q => h H1 e Q fun v H2 e2 iv => q v H2 e2 iv (by
  obtain ⟨p, xs, rfl, g1, g2⟩ := iv.t
  have T2 := T.ex (e.trans e2)
  obtain ⟨_, ⟨s, h1, _⟩, ⟨ns, h2, _⟩⟩ := T2
  exact ⟨fun z => (by cases z; rw [g1] at h1; cases h1), fun z => (by cases z; rw [g1] at h2; cases h2)⟩)
theorem eo_non : EvO1 tp c (tC .non) σ H .none := fun H1 e Q q => q _ H1 (Ex.refl H1) .non ⟨fun z => (by cases z), fun z => (by cases z)⟩
theorem EvOs.is {ta : TA} {es : List PyData} (h : EvOs tp c ta σ H ds) (e : ds = es) : EvOs tp c ta σ H es := e ▸ h
theorem eos0 : EvOs tp c tNil σ H [] := fun H1 _ _ q => q _ H1 (Ex.refl H1) .nil (fun v hv => by cases hv)
theorem eos1 {tr : TA} (h : EvO1 tp c ta σ H d) (hr : EvOs tp c tr σ H ds) : EvOs tp c (tCons ta tr) σ H (d :: ds) := fun H1 e _ q =>
  h H1 e _ fun v H2 e2 i2 o2 => hr H2 (e.trans e2) _ fun vs H3 e3 i3 o3 => q _ H3 (e2.trans e3) (.cons (i2.mono e3) i3) (fun w hw => by
    rcases List.mem_cons.mp hw with rfl | hw
    · exact o2
    · exact o3 w hw)
theorem callA {sp : Sp} {E : XK} {ta : TA} {Q : VK} (k : ta σ H fun vs H1 => sp (vs ++ []) H1 Q E) : tCall sp [] E ta σ H Q := k
theorem callSA {sp : Sp} {E : L2.St → XK} {ta : TA} {Q : VK} (k : ta σ H fun vs H1 => sp vs H1 Q (E σ)) : tCallS sp E ta σ H Q := k
theorem q_dropA (k : te σ H fun _ H1 => tz D σ H1) : tSeq (tDrop te) tz D σ H := k
theorem consA {tr : TA} {Q : List V → Hp → Prop} (k : te σ H fun v H1 => tr σ H1 fun vs H2 => Q (v :: vs) H2) : tCons te tr σ H Q := k
theorem lstA {ta : TA} {Q : VK} (k : ta σ H fun xs H1 => xs.length ≤ sizeLine ∧ ∀ p, H1 p = none → Q (.ref p) (L2.upd H1 p (.lst xs))) : tLst ta σ H Q := k
theorem var_run {i : Nat} {Q : VK} (h : σ[i]? = some (some v)) (k : Q v H) : tVar i σ H Q := ⟨v, h, k⟩
/-- one of some is picked: what it is, where -/
inductive Pk (H : Hp) : V → PyData → Prop
  | still {v : V} {d : PyData} : Pd.still d = true → Im H v d → Pk H v d
  | lst {p : Addr} {xs : List V} {ds : List PyData} : H p = some (.lst xs) → stills ds = true → Ims H xs ds → Pk H (.ref p) (.list ds)
theorem Pk.im {v : V} {d : PyData} (h : Pk H v d) : Im H v d := by
  cases h with
  | still _ h => exact h
  | lst h1 _ h2 => exact .lst h1 h2
def flat1 (d : PyData) : Bool := match d with
  | .list ds => stills ds
  | d => Pd.still d
theorem picked_of {it : Nat} {ta : TA} {Q : VK} {E : XK} (ht : σ[it]? = some (some (.ref tp))) (T : Tape tp c H) (h : EvOs tp c ta σ H ds) (h1 : ds ≠ []) (h2 : ds.length ≤ 1000) (hf : ∀ d ∈ ds, flat1 d = true) (k : ∀ v d, d ∈ ds → ∀ H', Go tp c H H' → Im H' v d → Q v H') :
    tCall sp_pick [] E (tCons (tVar it) (tCons (tLst ta) tNil)) σ H Q := by
  refine callA (consA (var_run ht (consA (lstA ?_))))
  refine h H (Ex.refl H) _ fun vs H2 e2 iv off => ⟨sz_of (by rw [iv.length]; omega), fun p hp => ?_⟩
  have T2 := T.ex e2
  have TP := T2.ex (Ex.new (o := .lst vs) hp)
  refine ⟨tp, c, p, vs, rfl, TP, T2.notin hp, upd_same, fun z => ?_, by rw [iv.length]; omega, fun i x hx H' g => ?_⟩
  · subst z
    cases iv
    exact h1 rfl
  · have iv' := iv.mono (Ex.new (o := .lst vs) hp)
    obtain ⟨d, hd, im⟩ := iv'.get hx
    have hm := List.mem_of_getElem? hd
    have ho := off x (List.mem_of_getElem? hx)
    have gg := (Go.of T (e2.trans (Ex.new (o := .lst vs) hp))).trans g
    refine k x d hm H' gg ?_
    have f := hf d hm
    cases im with
    | non => exact .non
    | bl b => exact .bl _
    | int i => exact .int _
    | str s => exact .str _
    | lst a b =>
      exact .lst (g.at (fun z => by
        rcases List.mem_cons.mp z with rfl | z
        · exact ho.1 rfl
        · rcases List.mem_cons.mp z with rfl | z
          · exact ho.2 rfl
          · cases z) a) (b.tx g.1.2 f)
    | tup a b => exact (Im.tup a b).tx g.1.2 f
end
end Pd
set_option Elab.async false
set_option linter.all false
set_option maxRecDepth 100000
set_option maxHeartbeats 2000000
/-! Mt: match of a tuple, its first item a text that tells the case. -/
namespace Pd
open PySem PySem.Spec PyProof.Rows L2 Evl
/-- the slots that the names take; none: no name -/
def setAll : L2.St → List (Option Nat) → List V → L2.St
  | σ, some i :: is, v :: vs => setAll (σ.set i (some v)) is vs
  | σ, none :: is, _ :: vs => setAll σ is vs
  | σ, _, _ => σ
abbrev TMc := List V → TS
def mEnd : TMc := fun _ D σ H => D.nx σ H
def mSeq (w : Str) (is : List (Option Nat)) (tb : TS) (tr : TMc) : TMc := fun xs D σ H => if xs.length = is.length + 1 then ∃ x vs, xs = .str x :: vs ∧ (if x = w then tb D (setAll σ is vs) H else tr xs D σ H) else tr xs D σ H
def tMatch (K : PySem.W.Frag) (te : TE) (tm : TMc) : TS := fun D σ H => te σ H fun x H1 => ∃ a xs, x = .ref a ∧ SqT K H1 a xs ∧ tm xs D σ H1
structure PMc (X : Cx) (cases : List MatchCase) (t : TMc) : Prop where
  run : ∀ (pins : List (Addr × Obj)) (s : Shared) (σ : L2.St) (H : Hp) (D : Ends) (a : Addr) (xs : List V) (first : Bool), Inv X pins σ H s → SqT X.K H a xs → t xs D σ H → wpAny (model X.prog X.w) X.A (matchCases cases X.env (.ref a) first) (SP X pins D) X.xe s
inductive CapOk (X : Cx) : List Pattern → List (Option Nat) → Prop
  | nil : CapOk X [] []
  | name {n : Str} {i : Nat} {pos : Pos} {ps : List Pattern} {is : List (Option Nat)} : X.N[i]? = some n → Loc X.env.scope n → (X.fn n = true ∨ X.env.scope.names.lookup n = some .local) → CapOk X ps is → CapOk X (.MatchAs none (some n) pos :: ps) (some i :: is)
  | any {pos : Pos} {ps : List Pattern} {is : List (Option Nat)} : CapOk X ps is → CapOk X (.MatchAs none none pos :: ps) (none :: is)
def caps : List Pattern → List Value → List (Str × Value)
  | .MatchAs none name _ :: ps, u :: us => (name.map (·, u)).toList ++ caps ps us
  | _, _ => []
section
variable {X : Cx}
theorem CapOk.len {ps : List Pattern} {is : List (Option Nat)} (h : CapOk X ps is) : ps.length = is.length := by
  induction h with
  | nil => rfl
  | name _ _ _ _ ih => simp [ih]
  | any _ ih => simp [ih]
theorem match_caps {M : Model} {A : Around} {E : Value → Shared → Prop} {ps : List Pattern} {is : List (Option Nat)} (h : CapOk X ps is) : ∀ {us : List Value} {s : Shared} {Q : Option (List (Str × Value)) → Shared → Prop}, us.length = ps.length → Q (some (caps ps us)) s → wpAny M A (matchEach ps X.env us) Q E s := by
  induction h with
  | nil => intro us s Q hl q; exact wpAny_matchEach_nil q
  | @name n i pos ps is h1 h2 h3 h4 ih =>
    intro us s Q hl q
    cases us with
    | nil => simp at hl
    | cons u us =>
      refine wpAny_matchEach_cons (wpAny_matchPattern_Capture ?_)
      refine ih (by simpa using hl) ?_
      exact q
  | @any pos ps is h4 ih =>
    intro us s Q hl q
    cases us with
    | nil => simp at hl
    | cons u us =>
      refine wpAny_matchEach_cons (wpAny_matchPattern_Capture ?_)
      refine ih (by simpa using hl) ?_
      exact q
theorem bind_caps (hN : X.N.Nodup) {E : Value → Shared → Prop} {ps : List Pattern} {is : List (Option Nat)} (h : CapOk X ps is) : ∀ {us : List Value} {vs : List V} {pins : List (Addr × Obj)} {σ : L2.St} {H : Hp} {s : Shared} {Q : Unit → Shared → Prop}, Vals vs us → us.length = ps.length → Inv X pins σ H s →
    (∀ s', Inv X pins (setAll σ is vs) H s' → Q () s') → wpAny (model X.prog X.w) X.A (assignInOrder ((caps ps us).map fun (n, _) => bindName X.env n) ((caps ps us).map (·.2))) Q E s := by
  induction h with
  | nil =>
    intro us vs pins σ H s Q r hl I q
    cases us with
    | nil => cases r; exact assignInOrder_nil (q s I)
    | cons u us => simp at hl
  | @name n i pos ps is h1 h2 h3 h4 ih =>
    intro us vs pins σ H s Q r hl I q
    cases us with
    | nil => simp at hl
    | cons u us =>
      cases r with
      | cons rv rvs =>
        refine assignInOrder_cons (wpAny_bindName (store_ok I hN h1 h2 rv (fun s' I' => ?_) h3))
        exact ih rvs (by simpa using hl) I' q
  | @any pos ps is h4 ih =>
    intro us vs pins σ H s Q r hl I q
    cases us with
    | nil => simp at hl
    | cons u us =>
      cases r with
      | cons rv rvs => exact ih rvs (by simpa using hl) I q
theorem pmc_nil : PMc X [] mEnd := ⟨fun pins s σ H D a xs first I hq h => wpAny_matchCases_nil ⟨σ, H, I, h⟩⟩
theorem pmc_seq {w : Str} {j : Nat} {ps : List Pattern} {is : List (Option Nat)} {body : List Stmt} {rest : List MatchCase} {tb : TS} {tr : TMc} {p1 p2 p3 : Pos} (hc : X.calm = true) (hN : X.N.Nodup) (hps : CapOk X ps is) (hb : PSs X body tb) (hr : PMc X rest tr)
    (hstar : (Pattern.MatchValue (.Constant (.str w) j p1) p2 :: ps).findIdx? (·.isStar) = none := by rfl) (hwild : ((Pattern.MatchValue (.Constant (.str w) j p1) p2 :: ps).all fun p => p.isWildcard || (p.isStar && p.names.isEmpty)) = false := by rfl) :
    PMc X (⟨.MatchSequence (.MatchValue (.Constant (.str w) j p1) p2 :: ps) p3, none, body⟩ :: rest) (mSeq w is tb tr) := by
  refine ⟨fun pins s σ H D a xs first I hq h => ?_⟩
  obtain ⟨its, rv, ht, hz⟩ := I.tuple hq
  have hl : xs.length = its.length := rv.length
  refine wpAny_matchCases_cons (wpAny_matchPattern_Sequence (wpAny_collectionFlag ht.typeIs flag_seq_tuple ?_) hstar hwild)
  show wpAny _ _ (pyLen (.ref a)) _ _ s
  have hfit : (its.toArray.size : Int) < 2 ^ 63 := by
    have : its.toArray.size ≤ sizeLine := by simpa [← hl] using hz
    rw [sizeLine_eq] at this
    omega
  refine pyLen_tuple ht hfit ?_
  have I1 : Inv X pins σ H { s with toks := s.toks + 1 + 1 } := I.tok _
  have hlen : (Pattern.MatchValue (.Constant (.str w) j p1) p2 :: ps).length = is.length + 1 := by rw [List.length_cons, hps.len]
  unfold mSeq at h
  by_cases hn : xs.length = is.length + 1
  · rw [if_pos hn] at h
    obtain ⟨x, vs, rfl, h⟩ := h
    cases rv with
    | @cons _ u0 _ us r0 rvs =>
      have he : ¬ ((((u0 :: us).toArray.size : Nat) : Int) != ((Pattern.MatchValue (.Constant (.str w) j p1) p2 :: ps).length : Int)) = true := by
        rw [hlen, ← hn, hl]
        simp
      rw [if_neg he]
      have hps2 : us.length = ps.length := by
        have := hps.len
        simp only [List.length_cons] at hn hl
        omega
      have hsz : (Pattern.MatchValue (.Constant (.str w) j p1) p2 :: ps).length = (u0 :: us).toArray.size := by simp [hps2]
      rw [hsz]
      refine unpackItems_tuple (I.ok.hd hc) ht fun h' hx => ?_
      have I2 : Inv X pins σ H { s with heap := h', toks := s.toks + 1 + 1 } := I1.kept (t' := s.toks + 1 + 1) fun b o e => hx b o (Nat.ne_of_lt (Heap.lt_size e)) e
      show wpAny _ _ (matchEach (_ :: ps) X.env (u0 :: us)) _ _ _
      refine wpAny_matchEach_cons (wpAny_matchPattern_Value (thn ((pe_str (X := X) (x := w) (j := j) (pos := p1)).run pins _ σ H (fun v H' => v = .str w ∧ H' = H) I2 ⟨rfl, rfl⟩) fun u s2 ⟨v, H1, I3, ru, e1, e2⟩ => ?_))
      subst e1 e2
      refine thn (op_eq pins s2 σ H1 (.str x) (.str w) u0 u (fun z H' => z = .bl (decide (x = w)) ∧ H' = H1) I3 r0 ru ⟨rfl, ?_, rfl⟩) fun cv s3 ⟨z, H2, I4, rz, e3, e4⟩ => ?_
      · by_cases c : x = w <;> simp [c]
      subst e3 e4
      cases rz
      refine wpAny_truthy_bool ?_
      by_cases c : x = w
      · rw [if_pos c] at h
        rw [decide_eq_true c]
        show wpAny _ _ (matchEach ps X.env us) _ _ s3
        refine match_caps hps hps2 ?_
        show wpAny _ _ (assignInOrder (([] ++ caps ps us : List (Str × Value)).map fun (n, _) => bindName X.env n) (([] ++ caps ps us : List (Str × Value)).map (·.2))) _ _ s3
        rw [List.nil_append]
        refine bind_caps hN hps rvs hps2 I4 fun s' I' => ?_
        exact hb.run pins s' _ H2 D I' h
      · rw [if_neg c] at h
        rw [decide_eq_false c]
        exact hr.run pins s3 σ H2 D a _ false I4 hq h
  · rw [if_neg hn] at h
    have he : ((((its.toArray.size : Nat) : Int)) != ((Pattern.MatchValue (.Constant (.str w) j p1) p2 :: ps).length : Int)) = true := by
      rw [hlen]
      simp only [List.size_toArray, bne_iff_ne, ne_eq]
      omega
    rw [if_pos he]
    exact hr.run pins _ σ H D a xs false I1 hq h
theorem ps_match {e : Expr} {te : TE} {cases : List MatchCase} {tm : TMc} {pos : Pos} (he : PE X e te) (hm : PMc X cases tm) : PS X (.Match e cases pos) (tMatch X.K te tm) := by
  refine ⟨fun pins s σ H D I h => ?_⟩
  refine wpAny_Match (thn (he.run pins s σ H _ I h) fun u s1 ⟨x, H1, I1, rx, a, xs, ex, hq, h1⟩ => ?_)
  subst ex
  cases rx
  exact hm.run pins s1 σ H1 D a xs true I1 hq h1
end
end Pd
set_option Elab.async false
set_option linter.all false
set_option maxRecDepth 100000
set_option maxHeartbeats 2000000
/-! En: enumerate(a tuple). -/
namespace Pd
open PySem PySem.Spec PyProof.Rows L2 Evl
open AutoSeq1 (wpAny_loadPart')
theorem enum_newT (l : Addr) (items : Array Value) (n : Nat) (dct : Option Addr) (sl : Array (Option Value)) :
    Meets (Builtin.«enumerate.__new__» ⟨[.type "enumerate", .ref l], []⟩) (fun _ R s => s.heap.get? l = some { cls := .type "tuple", dict := dct, data := .seq items n, slots := sl } ∧
      R (.ok (.ret (.ref (s.heap.push { cls := .type "tuple_iterator", data := .fields #[.ref l, .int 0 0] }).objs.size)))
        { s with heap := (s.heap.push { cls := .type "tuple_iterator", data := .fields #[.ref l, .int 0 0] }).push { cls := .type "enumerate", data := .fields #[.none, .bool false, .ref s.heap.objs.size, rawInt 0, .none, .none] } }) :=
  .of_wp fun prog w A R s h => by
    obtain ⟨hp, g, d, tk, os⟩ := s; obtain ⟨hl, h⟩ := h
    have hsub := sub_enumerate
    have hL : IsTup (Shared.heap ⟨hp, g, d, tk, os⟩) l items := ⟨_, hl, rfl, n, rfl⟩
    wp_walk using wpAny_loadPart' hl
    refine wpAny_stack_any fun st => wpAny_pure ?_
    split
    · rename_i c _ _ _ _ _
      cases (c == Value.type "enumerate")
      · wp_walk using wpAny_loadPart' hl, iter_tuple hL
        exact ⟨_, rfl, h⟩
      · wp_walk using wpAny_loadPart' hl, iter_tuple hL
        exact ⟨_, rfl, h⟩
    · wp_walk using wpAny_loadPart' hl, iter_tuple hL
      exact ⟨_, rfl, h⟩
section
variable {prog : Program} {w : World} {A : Around} {E : Value → Shared → Prop} {s : Shared}
theorem call_enumT {l : Addr} {items : Array Value} {Q : Value → Shared → Prop} (hL : IsTup s.heap l items)
    (h : ∀ h', IsEnum h' (s.heap.objs.size + 1) s.heap.objs.size 0 .none → h'.IsTupleIter s.heap.objs.size l 0 → h'.objs.size = s.heap.objs.size + 2 →
      (∀ b o, s.heap.get? b = some o → h'.get? b = some o) → Q (.ref (s.heap.objs.size + 1)) { s with heap := h' }) :
    wpAny (model prog w) A (call (.type "enumerate") [.ref l]) Q E s := by
  obtain ⟨⟨c, dct, dt, sl⟩, hl, hc, n, hd⟩ := hL
  replace hc : c = .type "tuple" := hc
  replace hd : dt = .seq items n := hd
  subst hc hd
  refine callType_new F.called_enumerate (by decide) (F.typeCall_enumerate_1 _) (F.newCall_enumerate_1 _) (fun obj => F.args_object_init_2 obj _) F.entry_enumerate_new
    (enum_newT l items n dct sl) ⟨hl, ?_⟩
  have hz : (s.heap.push { cls := .type "tuple_iterator", data := .fields #[.ref l, .int 0 0] }).objs.size = s.heap.objs.size + 1 := Heap.size_push ..
  show _ ∧ _
  rw [hz]
  have he : IsEnum ((s.heap.push { cls := .type "tuple_iterator", data := .fields #[.ref l, .int 0 0] }).push
      { cls := .type "enumerate", data := .fields #[.none, .bool false, .ref s.heap.objs.size, rawInt 0, .none, .none] }) (s.heap.objs.size + 1) s.heap.objs.size 0 .none := by
    have := Heap.get?_push_size (s.heap.push { cls := .type "tuple_iterator", data := .fields #[.ref l, .int 0 0] })
      (o := { cls := .type "enumerate", data := .fields #[.none, .bool false, .ref s.heap.objs.size, rawInt 0, .none, .none] }) rfl
    rw [hz] at this; exact this
  refine ⟨⟨_, he, rfl⟩, h _ he ⟨_, Heap.get?_push_of_some _ (Heap.get?_push_size _ rfl), rfl, rfl⟩ (by rw [Heap.size_push, hz]) fun b o x => Heap.get?_push_of_some _ (Heap.get?_push_of_some _ x)⟩
end
/-- the tuple at a, each item in a new pair -/
def Iet (K : PySem.W.Frag) (a : Addr) : It :=
  ⟨fun i H => ∃ (xs : List V) (x : V), SqT K H a xs ∧ xs[i]? = some x, fun i H v H' => ∃ T x, v = .ref T ∧ H T = none ∧ H' = upd H T (.tup [.int (i : Nat), x]) ∧ ∀ xs, SqT K H a xs → xs[i]? = some x, fun i H => ∃ xs : List V, SqT K H a xs ∧ xs.length ≤ i⟩
theorem IsTup.isTuple {h : Heap} {a : Addr} {items : Array Value} (x : IsTup h a items) : h.IsTuple a items := x
theorem turn_enumT {P : Program} {w : World} {K : PySem.W.Frag} {elts : List Expr} {kk : Nat} {tpos : Pos} (a e it : Addr) :
    Turn P w K (.Tuple elts kk tpos) (Iet K a) [e, it] e (fun i h => (∃ old, IsEnum h e it ((i : Nat) : Int) old) ∧ h.IsTupleIter it a i ∧ e ≠ it) where
  mem := by simp
  obj := fun i h st b hb => by
    obtain ⟨⟨old, he⟩, ⟨o, ho, hc, hd⟩, _⟩ := st
    have e' : b = e ∨ b = it := by simpa using hb
    rcases e' with z | z
    · rw [z]; exact ⟨_, he, fun v q => nomatch q⟩
    · rw [z]; exact ⟨o, ho, fun v q => by rw [hd] at q; cases q⟩
  keep := fun i h h' st k => let ⟨⟨old, he⟩, hi, hne⟩ := st; ⟨⟨old, k e (by simp) _ he⟩, hi.at fun o q => k it (by simp) o q, hne⟩
  item := by
    intro X hP hw hK hc i pins s σ H E I hf st hg
    subst hP hw hK
    obtain ⟨⟨old, he⟩, hit, hne⟩ := st
    obtain ⟨xs, x, hq, hx⟩ := hg
    obtain ⟨its, rv, p, hz⟩ := I.tuple hq
    obtain ⟨u, hu, ru⟩ := rv.get hx
    have hel : e < s.heap.objs.size := Heap.lt_size he
    have hil : it < s.heap.objs.size := by obtain ⟨_, q, _⟩ := hit; exact Heap.lt_size q
    have hai : a ≠ it := fun z => by
      obtain ⟨o1, g1, c1, _⟩ := p
      obtain ⟨o2, g2, c2, _⟩ := hit
      rw [z, g2] at g1
      cases g1
      rw [c2] at c1
      exact absurd (Value.type.inj c1) (by decide)
    have hae : a ≠ e := fun z => by
      obtain ⟨o1, g1, c1, _⟩ := p
      rw [z, he] at g1
      cases g1
      have c1' : Value.type "enumerate" = Value.type "tuple" := c1
      exact absurd (Value.type.inj c1') (by decide)
    have hlt : i < its.toArray.size := by
      have := (List.getElem?_eq_some_iff.mp hu).1
      simpa using this
    refine wpAny_pyNext_enum_itemD (Draws.tuple (show X.A.in1.handled = none from I.ok.hd hc) it a hai its.toArray) he ⟨hit, p⟩ hlt hne (by simp [hne, Ne.symm hae]) fun x' h' tk hx' ho hit' hT hsz hk => ?_
    have exx : x' = u := by
      have : its.toArray[i]? = some u := by simpa using hu
      rw [this] at hx'
      exact (Option.some.inj hx').symm
    subst exx
    refine ⟨_, rfl, wpAny_letOwnedTupleGo_enum (s := { s with heap := h', toks := tk + 1 }) ho fun h'' he' sb => ?_⟩
    have hT2 : h''.get? s.heap.objs.size = some { cls := .type "tuple", data := .seq #[.int i tk, x'] } := (sb.2 _ (Nat.ne_of_gt hel)).trans hT
    have new : ObjOk X.prog X.w (upd H s.heap.objs.size (.tup [.int (i : Nat), x])) h'' s.heap.objs.size (.tup [.int (i : Nat), x]) :=
      ⟨by show 2 ≤ sizeLine; decide, [.int i tk, x'], .cons ⟨_, rfl⟩ (.cons ru .nil), ⟨_, hT2, rfl, _, rfl⟩⟩
    have I1 : Inv X pins σ (upd H s.heap.objs.size (.tup [.int (i : Nat), x])) { s with heap := h'', toks := tk + 1 } :=
      I.turnedNew (ch := [e, it]) (fun b ob hb q => (sb.2 b (fun z => hb (by simp [z]))).trans (hk b ob (fun z => hb (by simp [z])) (fun z => hb (by simp [z])) q)) hf (Nat.le_refl _) new
    refine ⟨.ref s.heap.objs.size, _, I1, rfl, ⟨_, x, rfl, I.hok.fresh (Nat.le_refl _), rfl, fun ys hy => by rw [I.tuple_inj hy hq]; exact hx⟩, ⟨⟨x', ?_⟩, hit'.1.at fun o q => (sb.2 it (Ne.symm hne)).trans q, hne⟩, fun b hb => ?_⟩
    · have e1 : ((i + 1 : Nat) : Int) = (i : Int) + 1 := by omega
      rw [e1]; exact he'
    · have hb' : b < s.heap.objs.size := by
        have e' : b = e ∨ b = it := by simpa using hb
        rcases e' with z | z
        · rw [z]; exact hel
        · rw [z]; exact hil
      rw [upd_ne (Nat.ne_of_lt hb')]
      exact (hf b hb).1
  done := by
    intro X hP hw hK hc i pins s σ H E I hf st hg
    subst hP hw hK
    obtain ⟨⟨old, he⟩, hit, hne⟩ := st
    obtain ⟨xs, hq, hx⟩ := hg
    obtain ⟨its, rv, p, hz⟩ := I.tuple hq
    obtain ⟨f0, f1, f2, f3, f4, f5⟩ := hf it (by simp)
    have hl := rv.length
    have hT : s.TypeIs (.ref e) "enumerate" := ⟨_, he, rfl⟩
    unfold pyNext
    refine wpAny_bind (wpAny_attempt (wpAny_callSpecial?_slot (name := Str.ofString "__next__") hT F.slot_enumerate_next
      (wpAny_call_entry F.slot_enumerate_next hT F.entry_enumerate_next ?_ (F.args_enumerate_next_1 _))))
    show wpAny _ _ (field (.ref e) 2 >>= _) _ _ _
    refine wpAny_bind (wpAny_field he rfl (x := .ref it) rfl ?_)
    refine wpAny_bind (wpAny_nextOf_tuple_end (show X.A.in1.handled = none from I.ok.hd hc) hit p (by simp; omega) fun h' x he' hx' => ?_)
    obtain ⟨o, ho, hc'⟩ := hx'
    refine wpAny_bind (wpAny_isInstance (T := "StopIteration") (b := true) ⟨o, ho, hc'⟩ isSubtype_stop ?_)
    exact wpAny_pure ⟨rfl, I.turned (t' := s.toks) (fun b o hb q => he' b o hb q) f0 f1 f3 f4 f5⟩
  self := fun A i s Q E st h => let ⟨⟨_, he⟩, _⟩ := st; wpAny_pyIter_enum he h
def iEnumT (K : PySem.W.Frag) (ta : TA) : TI := fun σ H R => ta σ H fun vs H1 => ∃ a xs, vs = [.ref a] ∧ SqT K H1 a xs ∧ R (Iet K a) H1
theorem pi_enumT {X : Cx} {e : Expr} {ta : TA} {p pos tpos : Pos} {elts : List Expr} {kk : Nat} (hg : Gl X "enumerate") (hm : X.mg "enumerate" = none) (ha : PA X [e] ta) (hs : starEach [e] X.env = [(false, eval e X.env)] := by rfl) :
    PI X (.Tuple elts kk tpos) (.Call (.Name "enumerate" p) [e] [] pos) (iEnumT X.K ta) := by
  refine ⟨fun pins s σ H R I h => ?_⟩
  refine PyProof.Rows.Call_ (ld_blt I hg hm boot_enumerate (PyProof.Rows.callWith_type1 (thn (ha.run pos pins s σ H _ I h) fun us s1 ⟨vs, H1, I1, r1, q1⟩ => ?_) hs rfl))
  obtain ⟨a, xs, ex, hq, q⟩ := q1
  subst ex
  cases r1 with
  | cons r rr =>
    cases rr
    cases r
    obtain ⟨its, rv, p', hz⟩ := I1.tuple hq
    refine call_enumT p' fun h' he hit hsz hk => wpAny_pyIter_enum he ?_
    have I2 : Inv X pins σ H1 { s1 with heap := h' } := I1.kept (t' := s1.toks) hk
    refine ⟨s1.heap.objs.size + 1, [s1.heap.objs.size + 1, s1.heap.objs.size], _, _, H1, rfl, I2, turn_enumT a (s1.heap.objs.size + 1) s1.heap.objs.size, ⟨⟨.none, he⟩, hit, Nat.succ_ne_self _⟩, fun b hb => ?_, q⟩
    have e' : b = s1.heap.objs.size + 1 ∨ b = s1.heap.objs.size := by simpa using hb
    have hle : s1.heap.objs.size ≤ b := by
      rcases e' with z | z
      · rw [z]; exact Nat.le_add_right _ _
      · rw [z]; exact Nat.le_refl _
    exact I1.fpOk hle (I1.hok.fresh hle)
theorem k_pi_enumT {X : Cx} {K : PySem.W.Frag} (hK : X.K = K) {e : Expr} {ta : TA} {p pos tpos : Pos} {elts : List Expr} {kk : Nat} (hg : Gl X "enumerate") (hm : X.mg "enumerate" = none) (ha : PA X [e] ta) (hs : starEach [e] X.env = [(false, eval e X.env)] := by rfl) :
    PI X (.Tuple elts kk tpos) (.Call (.Name "enumerate" p) [e] [] pos) (iEnumT K ta) := by subst hK; exact pi_enumT hg hm ha hs
theorem walk_enumT {K : PySem.W.Frag} {a : Addr} {xs : List V} : Walk (Iet K a) xs.length (fun H => SqT K H a xs) (YPair (fun i => some (.int (i : Nat))) (fun i => xs[i]?)) :=
  ⟨fun i _ hi q => ⟨xs, xs[i], q, by simp [hi]⟩, fun _ q => ⟨xs, q, Nat.le_refl _⟩, fun i H v H' _ q y => by
    obtain ⟨T, x, e1, e2, e3, e4⟩ := y
    exact ⟨T, _, x, e1, e2, e3, rfl, e4 xs q⟩⟩
theorem wm_enumT {K : PySem.W.Frag} {σ : L2.St} {H : Hp} {tl : TE} {ds : List PyData} {M : List Addr} (h : EvD tl σ H (.tuple ds)) (hs : stills ds = true) : WkM M (iEnumT K (tCons tl tNil)) σ H (numbered 0 ds) := fun H1 e R r =>
  h H1 e _ fun v H2 e2 iv => by
    obtain ⟨p, xs, rfl, g1, g2⟩ := iv.t
    refine ⟨p, xs, rfl, SqT.of g1, r _ H2 (fun H => SqT K H p xs) (YPair (fun i => some (.int (i : Nat))) (fun i => xs[i]?)) e2 (by rw [numbered_length, ← g2.length]; exact walk_enumT) (fun H3 e3 => SqT.of (e3.2 _ _ g1)) fun i H3 x H4 e3 yy => ?_⟩
    obtain ⟨T, a, b, rfl, hT, rfl, ha, hb⟩ := yy
    obtain ⟨d2, hd2, im2⟩ := (g2.tx e3.2 hs).get hb
    have ea : a = .int (i : Nat) := (Option.some.inj ha).symm
    subst ea
    refine ⟨Ex.new hT, .tuple [.int (i : Nat), d2], ?_, .tup upd_same (.cons (.int _) (.cons (im2.mono (Ex.new hT)) .nil))⟩
    have := numbered_get ds 0 i d2 hd2
    rw [Nat.zero_add] at this
    exact this
end Pd
set_option Elab.async false
set_option linter.all false
set_option maxRecDepth 100000
set_option maxHeartbeats 2000000
/-! Cm: methods and instances. -/
namespace Pd
open PySem PySem.Spec PyProof.Rows L2 Evl
/-- a method of the class at C, its promise kept -/
structure CalM (P : Program) (w : World) (K : PySem.W.Frag) (mg : Str → Option Value) (base : Heap) (CX : CXT) (k : Nat) (C : Addr) (m : Str) (ps : List Str) (sp : Sp) : Prop where
  ex : ∃ (f : Addr) (fd : FuncData), Meth K C m f ∧ Binds K fd ps [] ∧ FnOk P w K mg base CX k f fd ps sp
structure SrcM (K : PySem.W.Frag) (C : Addr) (m qual : Str) (st : Stmt) (ps : List Str) : Prop where
  ex : ∃ (f : Addr) (fd : FuncData), Meth K C m f ∧ Fun K m qual st f fd ∧ Binds K fd ps []
/-- the making of an instance -/
structure CalC (P : Program) (w : World) (K : PySem.W.Frag) (mg : Str → Option Value) (base : Heap) (CX : CXT) (k : Nat) (x : Str) (C : Addr) (ps : List Str) (sp : Sp) : Prop where
  ex : ∃ (f : Addr) (fd : FuncData), mg x = some (.ref C) ∧ Mk K C f ∧ Binds K fd ps [] ∧ FnOk P w K mg base CX k f fd ps sp
structure SrcC (K : PySem.W.Frag) (mg : Str → Option Value) (x : Str) (C : Addr) (qual : Str) (st : Stmt) (ps : List Str) : Prop where
  ex : ∃ (f : Addr) (fd : FuncData), mg x = some (.ref C) ∧ Mk K C f ∧ Fun K "__init__" qual st f fd ∧ Binds K fd ps []
section
variable {P : Program} {w : World} {K : PySem.W.Frag} {mg : Str → Option Value} {base : Heap}
theorem SrcM.cal {C : Addr} {m qual : Str} {st : Stmt} {N ps : List Str} {k : Nat} {sp : Sp} (F : SrcM K C m qual st ps) (S : FnScope N ps (defScope st)) (len : ∀ vs H Q E, sp vs H Q E → vs.length = ps.length)
    (hbody : ∀ (f : Addr) (cdv : Value) (A : Around) (outer : List Env) (s : Shared) (H : Hp) (vs : List V) (Q : VK) (E : XK), Room k (A.deeper (envOfC qual (defScope st) s.heap.objs.size f cdv)) → sp vs H Q E →
      ∃ t, PSs (cxOf CX0 P w K mg base N qual (defScope st) f cdv A outer s H E).nox (defBody st) t ∧ t { nx := fun _ H' => Q .non H', rt := Q } (start N vs) H) : CalM P w K mg base CX0 (k + 1) C m ps sp := by
  obtain ⟨f, fd, hm, hF, hb⟩ := F.ex
  exact ⟨f, fd, hm, hb, hF.ok S len fun cdv A outer s H vs Q E => hbody f cdv A outer s H vs Q E⟩
theorem SrcC.calX {x : Str} {C : Addr} {qual : Str} {st : Stmt} {N ps : List Str} {k : Nat} {sp : Sp} (F : SrcC K mg x C qual st ps) (S : FnScope N ps (defScope st)) (len : ∀ vs H Q E, sp vs H Q E → vs.length = ps.length)
    (hbody : ∀ (f : Addr) (cdv : Value) (A : Around) (outer : List Env) (s : Shared) (H : Hp) (vs : List V) (Q : VK) (E : XK), Room k (A.deeper (envOfC qual (defScope st) s.heap.objs.size f cdv)) → sp vs H Q E →
      ∃ t, PSs (cxOf (L2.CX P w) P w K mg base N qual (defScope st) f cdv A outer s H E) (defBody st) t ∧ t { nx := fun _ H' => Q .non H', rt := Q } (start N vs) H) : CalC P w K mg base (L2.CX P w) (k + 1) x C ps sp := by
  obtain ⟨f, fd, hx, hm, hF, hb⟩ := F.ex
  exact ⟨f, fd, hx, hm, hb, hF.okX S len fun cdv A outer s H vs Q E => hbody f cdv A outer s H vs Q E⟩
theorem SrcC.cal {x : Str} {C : Addr} {qual : Str} {st : Stmt} {N ps : List Str} {k : Nat} {sp : Sp} (F : SrcC K mg x C qual st ps) (S : FnScope N ps (defScope st)) (len : ∀ vs H Q E, sp vs H Q E → vs.length = ps.length)
    (hbody : ∀ (f : Addr) (cdv : Value) (A : Around) (outer : List Env) (s : Shared) (H : Hp) (vs : List V) (Q : VK) (E : XK), Room k (A.deeper (envOfC qual (defScope st) s.heap.objs.size f cdv)) → sp vs H Q E →
      ∃ t, PSs (cxOf CX0 P w K mg base N qual (defScope st) f cdv A outer s H E).nox (defBody st) t ∧ t { nx := fun _ H' => Q .non H', rt := Q } (start N vs) H) : CalC P w K mg base CX0 (k + 1) x C ps sp := by
  obtain ⟨f, fd, hx, hm, hF, hb⟩ := F.ex
  exact ⟨f, fd, hx, hm, hb, hF.ok S len fun cdv A outer s H vs Q E => hbody f cdv A outer s H vs Q E⟩
end
section
variable {X : Cx} {CX : CXT} {k : Nat} {ps : List Str} {sp : Sp} {E : XK} {x m : Str} {p pos apos : Pos} {e o : Expr} {es : List Expr} {t : TA} {ta : TE} {C : Addr}
theorem pe_calM {pl : Sem Bool} (M : CalM X.prog X.w X.K X.mg X.base CX k C m ps sp) (c : Cls X.K C) (hr : Room k X.A) (hx : Passes CX X E) (he : PE X o ta) (ha : PA X (e :: es) t)
    (hst : starEach (e :: es) X.env = (false, eval e X.env) :: starEach es X.env := by rfl) (hpl : (backTo pos (starEach es X.env)).any (·.1) = false := by rfl)
    (ht : eval (.Call (.Attribute o m apos) (e :: es) [] pos) X.env = (do
      let ov ← eval o X.env
      standAt apos.atName
      let (f, first) ← holding [ov] (getMethod ov m pl)
      callWith pos f first (backTo pos (starEach (e :: es) X.env)) (backToKw pos (keywordEach [] X.env))) := by rfl) :
    PE X (.Call (.Attribute o m apos) (e :: es) [] pos) (tMeth C m sp [] E ta t) := by
  obtain ⟨f, fd, hm, hb, F⟩ := M.ex
  exact pe_meth he c hm F hr hb .nil hx ha hst hpl ht
theorem pe_mkC (M : CalC X.prog X.w X.K X.mg X.base CX k x C ps sp) (hr : Room (k + 1) X.A) (hg : Gl X x) (hx : Passes CX X E)
    (ha : PA X (e :: es) t) (hdb : (x == ("__debug__" : Str)) = false := by decide) (he : starEach (e :: es) X.env = (false, eval e X.env) :: starEach es X.env := by rfl) (hpl : (backTo pos (starEach es X.env)).any (·.1) = false := by rfl) :
    PE X (.Call (.Name x p) (e :: es) [] pos) (tMake C sp [] E t) := by
  obtain ⟨f, fd, hm, hM, hb, F⟩ := M.ex
  exact pe_make hM F hr hg hm hb .nil hx ha hdb he hpl
theorem k_fld {K : PySem.W.Frag} (hK : X.K = K) {f : Str} (he : PE X e ta) (hb : attributeBase e f X.env (eval e X.env) = eval e X.env) : PE X (.Attribute e f pos) (tFld K ta f) := by subst hK; exact pe_fld he hb
end
section
variable {K : PySem.W.Frag} {σ : L2.St} {H H' : Hp} {ta tb te tx tl to : TE} {x y z v : V} {d d' : PyData} {ds : List PyData} {C a dx : Addr} {fs : List (Str × V)} {f m : Str}
theorem ed_fld (h : Ev ta σ H (.ref a)) (hi : H a = some (.ins C dx fs)) (hc : Cls K C) (hn : NoAttr K C f) (hl : fs.lookup f = some v) (hv : Im H v d) : EvD (tFld K ta f) σ H d := fun H1 e Q q =>
  h H1 e _ fun H2 e2 => ⟨a, C, dx, fs, v, rfl, (e.trans e2) _ _ hi, hc, hn, hl, q v H2 e2 (hv.mono (e.trans e2))⟩
/-- a method of an instance, its answer a datum -/
def SpS {α : Type} (S : α → Addr → Hp → Prop) (R : α → List PyData → PyData → Prop) : Sp := fun vs H Q _ => ∃ (x : α) (a : Addr) (ws : List V) (ds : List PyData) (d : PyData), vs = .ref a :: ws ∧ S x a H ∧ Ims H ws ds ∧ R x ds d ∧ ∀ v H', Ex H H' → Im H' v d → Q v H'
theorem ed_meth {α : Type} {S : α → Addr → Hp → Prop} {R : α → List PyData → PyData → Prop} {E : XK} {ta : TE} {tar : TA} {x : α} (ho : Ev ta σ H (.ref a)) (hi : H a = some (.ins C dx fs)) (hl : fs.lookup m = none) (hS : S x a H) (hm : ∀ H1, Ex H H1 → S x a H → S x a H1) (hd : EvDs tar σ H ds) (hR : R x ds d) :
    EvD (tMeth C m (SpS S R) [] E ta tar) σ H d := fun H1 e Q q => ho H1 e _ fun H2 e2 => ⟨a, dx, fs, rfl, (e.trans e2) _ _ hi, hl, hd H2 (e.trans e2) _ fun vs H3 e3 iv => ⟨x, a, vs, ds, d, by rw [List.append_nil], hm H3 ((e.trans e2).trans e3) hS, iv, hR, fun v H4 e4 i4 => q v H4 ((e2.trans e3).trans e4) i4⟩⟩
/-- x in xs, flat values -/
theorem ed_inV {neg : Bool} {ds : List PyData} {xs : List V} (ha : EvD ta σ H d) (hv : ∀ H1 v, Im H1 v d → v = x) (hf : flatV x = true) (hb : EvD tb σ H (.tuple ds)) (hx : ∀ H1 vs, Ims H1 vs ds → vs = xs) (hfs : xs.all flatV = true) : EvD (tOp (rIn K neg) ta tb) σ H (.bool (if neg then !inV x xs else inV x xs)) :=
  ed_op ha hb fun v y H1 e hv1 hy Q q => by
    obtain ⟨p, ys, rfl, h1, h2⟩ := hy.t
    have e1 := hv H1 v hv1
    have e2 := hx H1 ys h2
    subst e1 e2
    exact ⟨p, ys, rfl, .inr (SqT.of h1), hf, hfs, q _ H1 (Ex.refl H1) (.bl _)⟩
/-- == of scalars -/
theorem ed_eqV (ha : EvD ta σ H d) (hb : EvD tb σ H d') (hx : ∀ H1 v, Im H1 v d → v = x) (hy : ∀ H1 v, Im H1 v d' → v = y) (hs : scal x y = true) : EvD (tOp rEq ta tb) σ H (.bool (decide (x = y))) :=
  ed_op ha hb fun v u H1 e hv hu Q q => by
    have e1 := hx H1 v hv
    have e2 := hy H1 u hu
    subst e1 e2
    exact ⟨hs, q _ H1 (Ex.refl H1) (.bl _)⟩
/-- a comprehension whose items are drawn: all new ones are still and hold PD -/
theorem lc_drawn {wi : TI} {j : Nat} {vs : List Nat} {tp c : Addr} {C : List PyData → Hp → Prop} {Q : VK} {PD : PyData → Prop} (T : Tape tp c H) (hk : Run wi σ H [tp, c] C) (hC : ∀ src H2, C src H2 → src.length ≤ 1000 ∧ Go tp c H H2) (hst : ∀ d, PD d → still d = true)
    (hb : ∀ (src : List PyData) (i : Nat) (d : PyData) (x : V) (H2 H1 : Hp), C src H2 → src[i]? = some d → Go tp c H H1 → Im H1 x d → ∀ Q : VK, (∀ v d' H3, Go tp c H1 H3 → PD d' → Im H3 v d' → Q v H3) → te ((wipe σ vs).set j (some x)) H1 Q) (hw : ∀ x, wipe ((wipe σ vs).set j (some x)) vs = wipe σ vs)
    (k : ∀ p xs ds src H2 H', C src H2 → Go tp c H H' → H p = none → (∀ d ∈ ds, PD d) → ds.length = src.length → H' p = some (.lst xs) → Ims H' xs ds → Q (.ref p) H') : tLc wi (gName j) tYes te vs σ H Q := by
  refine hk _ fun J H2 G Y src hc W hG hY Dl hD => ?_
  obtain ⟨hsz, g2⟩ := hC src H2 hc
  have T2 := g2.2
  refine lc_it W (fun i H' => Go tp c H2 H' ∧ ∃ acc ds, acc.length = i ∧ H' Dl = some (.lst acc) ∧ Ims H' acc ds ∧ ds.length = i ∧ ∀ d ∈ ds, PD d)
    ⟨(Go.refl T2).mut T2 hD, [], [], rfl, upd_same, .nil, rfl, fun d hd => by cases hd⟩ (fun i H' _ p => hG H' p.1.1) (fun i x H3 H4 hi p y => ?_) fun H' p => ?_
  · obtain ⟨g, acc, ds, q1, q2, q3, q4, q5⟩ := p
    obtain ⟨e34, d, hd, im⟩ := hY i H3 x H4 g.1 y
    have g4 : Go tp c H2 H4 := g.ex e34
    refine ⟨hw x, ?_⟩
    show te ((wipe σ vs).set j (some x)) H4 _
    refine hb src i d x H2 H4 hc hd (g2.trans g4) im _ fun v d' H5 g5 hp iv => ?_
    have D5 : H5 Dl = some (.lst acc) := g5.at (T2.notin hD) (e34 _ _ q2)
    have hstd : stills ds = true := by
      clear q3 q4
      induction ds with
      | nil => rfl
      | cons a l ih =>
        show (still a && stills l) = true
        rw [hst a (q5 a (List.mem_cons_self ..)), ih fun d hd => q5 d (List.mem_cons_of_mem _ hd)]
        rfl
    refine ⟨acc, D5, sz_lt (by omega), (g4.trans g5).mut T2 hD, acc ++ [v], ds ++ [d'], by rw [List.length_append, q1]; rfl, upd_same, ?_, by rw [List.length_append, q4]; rfl, fun d hd => ?_⟩
    · exact Ims.append (((q3.mono e34).tx g5.1.2 hstd).tx (tx_lst D5) hstd) (.cons (iv.tx (tx_lst D5) (hst d' hp)) .nil)
    · rcases List.mem_append.mp hd with hd | hd
      · exact q5 d hd
      · have : d = d' := by simpa using hd
        rw [this]; exact hp
  · obtain ⟨g, acc, ds, q1, q2, q3, q4, q5⟩ := p
    refine k Dl acc ds src H2 H' hc (g2.trans g) ?_ q5 q4 q2 q3
    cases c0 : H Dl with
    | none => rfl
    | some o =>
      exfalso
      by_cases hm : Dl ∈ [tp, c]
      · exact T2.notin hD hm
      · rw [g2.at hm c0] at hD
        cases hD
end
end Pd
set_option Elab.async false
set_option linter.all false
set_option maxRecDepth 100000
set_option maxHeartbeats 4000000
/-! tuple * int for every number from 0 to 1000 -/
namespace L2
open PySem PySem.Spec PyProof.Rows
theorem tuple_mul0 (l : Addr) (items : Array Value) (n : Nat) (dd : Option Addr) (sl : Array (Option Value)) (u : Tok) (c1 : (items.isEmpty || (0 : Int) == 1) = false) :
    Meets (Builtin.«tuple.__mul__» ⟨[.ref l, .int 0 u], []⟩) (fun _ R s => s.heap.get? l = some { cls := .type "tuple", dict := dd, data := .seq items n, slots := sl } ∧
      R (.ok (.ret (Value.ref s.heap.objs.size))) { s with heap := s.heap.push { cls := Value.type "tuple", data := Data.seq #[] }, toks := s.toks }) :=
  .of_wp fun prog w A R s h => by
    obtain ⟨hp, g, d, tk, os⟩ := s
    obtain ⟨hl, h⟩ := h
    have f1 := AutoSeq1.idx_int
    wp_walk using wpAny_loadPart' hl
    repeat (first
      | (refine wpAny_ite_false (by decide) ?_; wp_walk using wpAny_loadPart' hl)
      | (refine wpAny_ite_false (decide_eq_false (by rw [c1]; exact Bool.false_ne_true)) ?_; wp_walk using wpAny_loadPart' hl)
      | (refine wpAny_ite_true (by simp) ?_; wp_walk using wpAny_loadPart' hl))
    all_goals exact ⟨_, rfl, h⟩
theorem tuple_mul1 (l : Addr) (items : Array Value) (n : Nat) (dd : Option Addr) (sl : Array (Option Value)) (u : Tok) :
    Meets (Builtin.«tuple.__mul__» ⟨[.ref l, .int 1 u], []⟩) (fun _ R s => s.heap.get? l = some { cls := .type "tuple", dict := dd, data := .seq items n, slots := sl } ∧
      R (.ok (.ret (Value.ref l))) s) :=
  .of_wp fun prog w A R s h => by
    obtain ⟨hp, g, d, tk, os⟩ := s
    obtain ⟨hl, h⟩ := h
    have f1 := AutoSeq1.idx_int
    wp_walk using wpAny_loadPart' hl
    repeat (first
      | (refine wpAny_ite_false (by decide) ?_; wp_walk using wpAny_loadPart' hl)
      | (refine wpAny_ite_true (by simp) ?_; wp_walk using wpAny_loadPart' hl))
    all_goals exact ⟨_, rfl, h⟩
def rRepA (K : PySem.W.Frag) : R2 := fun x y H Q => ∃ l k xs, x = .ref l ∧ y = .int k ∧ SqT K H l xs ∧ xs ≠ [] ∧ 0 ≤ k ∧ k ≤ 1000 ∧ xs.length ≤ 1000 ∧ (k = 1 → Q (.ref l) H) ∧ ∀ p, H p = none → Q (.ref p) (upd H p (.tup (List.replicate k.toNat xs).flatten))
section
variable {X : Cx}
theorem op_repA : OpR X (binaryOp .Mult) (rRepA X.K) := by
  intro pins s σ H x y v u Q I rx ry h
  obtain ⟨l, k, xs, rfl, rfl, hT, hne, h0, h2, hz, q1, q⟩ := h
  by_cases h1 : 2 ≤ k
  · exact op_repT pins s σ H (.ref l) (.int k) v u Q I rx ry ⟨l, k, xs, rfl, rfl, hT, hne, h1, h2, hz, q⟩
  cases rx
  obtain ⟨t, rfl⟩ := ry
  obtain ⟨its, r, ⟨⟨cls, dd, data, sl⟩, ho, hc, n, hd⟩, hs⟩ := I.tuple hT
  simp only at hc hd
  subst hc hd
  have hle : its.length = xs.length := r.length.symm
  have hn : its ≠ [] := fun e => hne (by
    rw [e] at hle
    exact List.eq_nil_of_length_eq_zero hle.symm)
  have hi : its.toArray.isEmpty = false := by
    cases its with
    | nil => exact absurd rfl hn
    | cons a b => rfl
  rcases (by omega : k = 0 ∨ k = 1) with rfl | rfl
  · have c1 : (its.toArray.isEmpty || (0 : Int) == 1) = false := by rw [hi]; rfl
    refine wpAny_binaryOp_repeat_ref (T := "tuple") (U := "int") (by decide) ⟨_, ho, rfl⟩ (fun s' => typeIs_int s' 0 t) noFill_tuple_mul F.fills_int_mul F.slot_int_rmul repeat_tuple F.slot_int_index.lookup
      (call_meets F.slot_int_rmul (typeIs_int s 0 t) F.entry_int_rmul (F.args_int_rmul_2 _ _) (int_rmul_tuple 0 t l its.toArray n dd sl)
        ⟨ho, rfl, ⟨_, ho, rfl⟩, call_meets F.slot_tuple_mul ⟨_, ho, rfl⟩ F.entry_tuple_mul (F.args_tuple_mul_2 _ _) (tuple_mul0 l its.toArray n dd sl t c1) ⟨ho, ?_⟩⟩)
    refine ⟨.ref s.heap.objs.size, _, I.laid (t' := s.toks) (o := .tup []) (fun b ob q => Heap.get?_push_of_some _ q) (Nat.le_refl _) ?_, rfl, q _ (I.hok.fresh (Nat.le_refl _))⟩
    exact ⟨Nat.zero_le _, _, .nil, IsTup.new _ _⟩
  · refine wpAny_binaryOp_repeat_ref (T := "tuple") (U := "int") (by decide) ⟨_, ho, rfl⟩ (fun s' => typeIs_int s' 1 t) noFill_tuple_mul F.fills_int_mul F.slot_int_rmul repeat_tuple F.slot_int_index.lookup
      (call_meets F.slot_int_rmul (typeIs_int s 1 t) F.entry_int_rmul (F.args_int_rmul_2 _ _) (int_rmul_tuple 1 t l its.toArray n dd sl)
        ⟨ho, rfl, ⟨_, ho, rfl⟩, call_meets F.slot_tuple_mul ⟨_, ho, rfl⟩ F.entry_tuple_mul (F.args_tuple_mul_2 _ _) (tuple_mul1 l its.toArray n dd sl t) ⟨ho, ?_⟩⟩)
    exact ⟨.ref l, _, I, rfl, q1 rfl⟩
end
end L2
namespace Pd
open PySem PySem.Spec PyProof.Rows L2 Evl
theorem Ims.rep1 {H : Hp} {v : V} {d : PyData} (h : Im H v d) : ∀ n : Nat, Ims H (List.replicate n [v]).flatten (List.replicate n d)
  | 0 => .nil
  | n + 1 => by
    rw [List.replicate_succ, List.replicate_succ, List.flatten_cons]
    exact .cons h (Ims.rep1 h n)
theorem k_repA {X : Cx} {K : PySem.W.Frag} (hK : X.K = K) : OpR X (binaryOp .Mult) (rRepA K) := by subst hK; exact op_repA
theorem ed_repT {K : PySem.W.Frag} {σ : L2.St} {H : Hp} {ta tb : TE} {n : Nat} {d : PyData} (ha : EvD ta σ H (.tuple [d])) (hb : EvD tb σ H (.int (n : Nat))) (hn : n ≤ 1000) : EvD (tOp (rRepA K) ta tb) σ H (.tuple (List.replicate n d)) :=
  ed_op ha hb fun x y H1 e hx hy Q q => by
    obtain ⟨p, xs, rfl, h1, h2⟩ := hx.t
    cases hy.i
    obtain ⟨v, rfl, iv⟩ := h2.one
    refine ⟨p, (n : Nat), [v], rfl, rfl, SqT.of h1, List.cons_ne_nil _ _, by omega, by omega, by show 1 ≤ 1000; omega, fun z => ?_, fun r hr => ?_⟩
    · cases (by omega : n = 1)
      exact q _ H1 (Ex.refl H1) (.tup h1 h2)
    · refine q _ _ (Ex.new hr) (.tup upd_same ?_)
      rw [Int.toNat_natCast]
      exact Ims.rep1 (iv.mono (Ex.new hr)) n
end Pd
set_option Elab.async false
set_option linter.all false
set_option maxRecDepth 100000
set_option maxHeartbeats 4000000
/-! tuple * int, from 2 on, up to 100000 items -/
namespace L2
open PySem PySem.Spec PyProof.Rows
def rRepW (K : PySem.W.Frag) : R2 := fun x y H Q => ∃ l k xs, x = .ref l ∧ y = .int k ∧ SqT K H l xs ∧ xs ≠ [] ∧ 2 ≤ k ∧ k.toNat * xs.length ≤ 100000 ∧ ∀ p, H p = none → Q (.ref p) (upd H p (.tup (List.replicate k.toNat xs).flatten))
section
variable {X : Cx}
theorem op_repW : OpR X (binaryOp .Mult) (rRepW X.K) := by
  intro pins s σ H x y v u Q I rx ry h
  obtain ⟨l, k, xs, rfl, rfl, hT, hne, h1, hz, q⟩ := h
  cases rx
  obtain ⟨t, rfl⟩ := ry
  obtain ⟨its, r, ⟨⟨cls, dd, data, sl⟩, ho, hc, n, hd⟩, hs⟩ := I.tuple hT
  simp only at hc hd
  subst hc hd
  have hle : its.length = xs.length := r.length.symm
  have hn : its ≠ [] := fun e => hne (by
    rw [e] at hle
    exact List.eq_nil_of_length_eq_zero hle.symm)
  have hp : 1 ≤ xs.length := by
    cases xs with
    | nil => exact absurd rfl hne
    | cons a b => simp
  have hi : its.toArray.isEmpty = false := by
    cases its with
    | nil => exact absurd rfl hn
    | cons a b => rfl
  have hsz0 : its.toArray.size = xs.length := by rw [List.size_toArray, hle]
  have hk : k.toNat ≤ 100000 := Nat.le_trans (by have := Nat.mul_le_mul_left k.toNat hp; omega) hz
  have hkn : k = (k.toNat : Int) := by omega
  have hm : ((its.toArray.size : Nat) : Int) * k ≤ 100000 := by
    rw [hsz0, hkn, ← Int.natCast_mul, Nat.mul_comm]
    exact Int.ofNat_le.mpr hz
  have flen : (List.replicate k.toNat its).flatten.length ≤ sizeLine := by
    rw [PyProof.Rows.lm_len_rep_flat, hle, sizeLine_eq]
    omega
  have c0 : (decide (k < -(2 ^ 63)) || decide (k ≥ 2 ^ 63)) = false := by
    rw [decide_eq_false (by omega), decide_eq_false (by omega)] <;> rfl
  have c1 : (its.toArray.isEmpty || k == 1) = false := by
    rw [hi, Bool.false_or]
    exact beq_eq_false_iff_ne.mpr (by omega)
  have c2 : (decide (k ≤ 0) || its.toArray.isEmpty) = false := by
    rw [hi, Bool.or_false]
    exact decide_eq_false (by omega)
  have c4 : Builtin.Tuple.tupleTooMany (((its.toArray.size : Nat) : Int) * k) = false := by
    unfold Builtin.Tuple.tupleTooMany
    rw [sizeLine_eq]
    exact decide_eq_false (by omega)
  refine wpAny_binaryOp_repeat_ref (T := "tuple") (U := "int") (by decide) ⟨_, ho, rfl⟩ (fun s' => typeIs_int s' k t) noFill_tuple_mul F.fills_int_mul F.slot_int_rmul repeat_tuple F.slot_int_index.lookup
    (call_meets F.slot_int_rmul (typeIs_int s k t) F.entry_int_rmul (F.args_int_rmul_2 _ _) (int_rmul_tuple k t l its.toArray n dd sl)
      ⟨ho, rfl, ⟨_, ho, rfl⟩, call_meets F.slot_tuple_mul ⟨_, ho, rfl⟩ F.entry_tuple_mul (F.args_tuple_mul_2 _ _) (tuple_mulW l its.toArray n dd sl k t c0 c1 c2 (by omega) c4 (by rw [size_rep, List.size_toArray]; exact flen)) ⟨ho, ?_⟩⟩)
  rw [size_rep]
  refine ⟨.ref s.heap.objs.size, _, I.laid (t' := s.toks) (o := .tup (List.replicate k.toNat xs).flatten) (fun b ob q => Heap.get?_push_of_some _ q) (Nat.le_refl _) ?_, rfl, q _ (I.hok.fresh (Nat.le_refl _))⟩
  exact ⟨by rw [PyProof.Rows.lm_len_rep_flat, sizeLine_eq]; omega, _, r.rep k.toNat, IsTup.new _ _⟩
end
end L2
namespace Pd
open PySem PySem.Spec PyProof.Rows L2 Evl
theorem k_repW {X : Cx} {K : PySem.W.Frag} (hK : X.K = K) : OpR X (binaryOp .Mult) (rRepW K) := by subst hK; exact op_repW
theorem ed_repW {K : PySem.W.Frag} {σ : L2.St} {H : Hp} {ta tb : TE} {n : Nat} {d : PyData} (ha : EvD ta σ H (.tuple [d])) (hb : EvD tb σ H (.int (n : Nat))) (h2 : 2 ≤ n) (hn : n ≤ 100000) : EvD (tOp (rRepW K) ta tb) σ H (.tuple (List.replicate n d)) :=
  ed_op ha hb fun x y H1 e hx hy Q q => by
    obtain ⟨p, xs, rfl, h1, h2'⟩ := hx.t
    cases hy.i
    obtain ⟨v, rfl, iv⟩ := h2'.one
    refine ⟨p, (n : Nat), [v], rfl, rfl, SqT.of h1, List.cons_ne_nil _ _, by omega, by rw [Int.toNat_natCast]; show n * 1 ≤ _; omega, fun r hr => ?_⟩
    refine q _ _ (Ex.new hr) (.tup upd_same ?_)
    rw [Int.toNat_natCast]
    exact Ims.rep1 (iv.mono (Ex.new hr)) n
/-- xs.pop() -/
theorem k_pop0 {X : Cx} {K : PySem.W.Frag} (hK : X.K = K) {o : Expr} {to : TE} {apos cpos : Pos} (ho : PE X o to)
    (hbase : attributeBase o "pop" X.env (eval o X.env) = eval o X.env := by rfl) (hline : (apos.endLine == cpos.line) = true := by rfl) : PE X (.Call (.Attribute o "pop" apos) [] [] cpos) (tBM0 K "list" rPop to) := by subst hK; exact pe_bm0 PySem.F.plainAttrs_list PySem.F.slot_list_pop PySem.F.type_list_pop mt_pop ho hbase hline
end Pd
set_option Elab.async false
set_option linter.all false
set_option maxRecDepth 100000
set_option maxHeartbeats 2000000
/-! Eg: what expressions come to that draw from the tape: still data of which P holds. -/
namespace Pd
open PySem PyProof.Rows L2 Evl
def EvG (t c : Addr) (te : TE) (σ : L2.St) (H : Hp) (P : PyData → Prop) : Prop := ∀ H1, Go t c H H1 → ∀ Q : VK, (∀ v d H2, Go t c H1 H2 → still d = true → P d → Im H2 v d → Q v H2) → te σ H1 Q
def EvGs (t c : Addr) (ta : TA) (σ : L2.St) (H : Hp) (P : List PyData → Prop) : Prop := ∀ H1, Go t c H H1 → ∀ Q : List V → Hp → Prop, (∀ vs ds H2, Go t c H1 H2 → stills ds = true → P ds → Ims H2 vs ds → Q vs H2) → ta σ H1 Q
def EvGT (t c : Addr) (tt : TT) (σ : L2.St) (H : Hp) (P : Bool → Prop) : Prop := ∀ H1, Go t c H H1 → ∀ Q : Bool → Hp → Prop, (∀ b H2, Go t c H1 H2 → P b → Q b H2) → tt σ H1 Q
section
variable {K : PySem.W.Frag} {σ : L2.St} {H H' : Hp} {ta tb te tx tl to : TE} {u u2 : TT} {x y z v : V} {d d' e' : PyData} {ds es : List PyData} {t c : Addr} {P P' P2 : PyData → Prop} {PB PB' : Bool → Prop} {D : Ends} {tu tz tw : TS}
theorem stills_cons {d : PyData} {ds : List PyData} : stills (d :: ds) = (still d && stills ds) := rfl
theorem stills_mem : ∀ {ds : List PyData}, stills ds = true → ∀ d ∈ ds, still d = true
  | [], _, d, h => by cases h
  | a :: l, s, d, h => by
    have s' := Bool.and_eq_true_iff.mp (show (still a && stills l) = true from s)
    rcases List.mem_cons.mp h with rfl | h
    · exact s'.1
    · exact stills_mem s'.2 d h
theorem stills_ofm : ∀ {ds : List PyData}, (∀ d ∈ ds, still d = true) → stills ds = true
  | [], _ => rfl
  | a :: l, h => by
    show (still a && stills l) = true
    rw [h a (List.mem_cons_self ..), stills_ofm fun d hd => h d (List.mem_cons_of_mem _ hd)]
    rfl
theorem stills_app {ds es : List PyData} (h : stills ds = true) (k : stills es = true) : stills (ds ++ es) = true := stills_ofm fun d hd => by
  rcases List.mem_append.mp hd with h1 | h1
  · exact stills_mem h d h1
  · exact stills_mem k d h1
theorem EvG.mono (g : Go t c H H') (h : EvG t c te σ H P) : EvG t c te σ H' P := fun H1 g1 Q q => h H1 (g.trans g1) Q q
theorem EvG.w (h : EvG t c te σ H P) (hp : ∀ d, P d → P' d) : EvG t c te σ H P' := fun H1 g1 Q q => h H1 g1 Q fun v d H2 g2 s p iv => q v d H2 g2 s (hp d p) iv
theorem EvGT.w (h : EvGT t c u σ H PB) (hp : ∀ b, PB b → PB' b) : EvGT t c u σ H PB' := fun H1 g1 Q q => h H1 g1 Q fun b H2 g2 p => q b H2 g2 (hp b p)
theorem eg_d (h : ∀ H1, Go t c H H1 → EvD te σ H1 d) (hs : still d = true) (hp : P d) : EvG t c te σ H P := fun H1 g Q q =>
  h H1 g H1 (Ex.refl H1) Q fun v H2 e iv => q v d H2 (Go.of g.2 e) hs hp iv
theorem eg_var {i : Nat} (h : σ[i]? = some (some v)) (iv : Im H v d) (hs : still d = true) (hp : P d) : EvG t c (tVar i) σ H P := eg_d (fun H1 g => ed_var h (g.im hs iv)) hs hp
theorem eg_c (h : ∀ H1, Im H1 v d) (hs : still d = true) (hp : P d) : EvG t c (tC v) σ H P := eg_d (fun H1 g => ed_c (h H1)) hs hp
theorem eg_i (i : Int) (hp : P (.int i)) : EvG t c (tC (.int i)) σ H P := eg_c (fun _ => .int i) rfl hp
theorem eg_s (i : Str) (hp : P (.str i)) : EvG t c (tC (.str i)) σ H P := eg_c (fun _ => .str i) rfl hp
theorem eg_b (i : Bool) (hp : P (.bool i)) : EvG t c (tC (.bl i)) σ H P := eg_c (fun _ => .bl i) rfl hp
theorem eg_n (hp : P .none) : EvG t c (tC .non) σ H P := eg_c (fun _ => .non) rfl hp
theorem egs0 {PP : List PyData → Prop} (hp : PP []) : EvGs t c tNil σ H PP := fun H1 g Q q => q _ _ H1 (Go.refl g.2) rfl hp .nil
theorem egs1 {PP : List PyData → Prop} {tr : TA} (h : EvG t c te σ H P) (hr : ∀ d, P d → EvGs t c tr σ H fun ds => PP (d :: ds)) : EvGs t c (tCons te tr) σ H PP := fun H1 g Q q =>
  h H1 g _ fun v d H2 g2 s p iv => hr d p H2 (g.trans g2) _ fun vs ds H3 g3 s3 p3 ivs => q _ _ H3 (g2.trans g3) (by rw [stills_cons, s, s3]; rfl) p3 (.cons (g3.im s iv) ivs)
theorem EvGs.w {ta : TA} {PP PP' : List PyData → Prop} (h : EvGs t c ta σ H PP) (hp : ∀ d, PP d → PP' d) : EvGs t c ta σ H PP' := fun H1 g1 Q q => h H1 g1 Q fun v d H2 g2 s p iv => q v d H2 g2 s (hp d p) iv
theorem eg_tup {ta : TA} (h : EvGs t c ta σ H fun ds => ds.length ≤ 100000 ∧ P (.tuple ds)) : EvG t c (tTup ta) σ H P := fun H1 g Q q =>
  h H1 g _ fun vs ds H2 g2 s ⟨hl, p⟩ ivs => ⟨sz_of (by rw [ivs.length]; exact hl), fun a ha => q _ (.tuple ds) _ (g2.ex (Ex.new ha)) (show still (.tuple ds) = true from s) p (.tup upd_same (ivs.mono (Ex.new ha)))⟩
/-- a drawn number -/
theorem eg_draw {it : Nat} {m : Nat} {E : XK} (ht : σ[it]? = some (some (.ref t))) (hm : ∀ H1, Go t c H H1 → EvD tb σ H1 (.int (m : Nat))) (h1 : 1 ≤ m) (h2 : m ≤ 1000) (hp : ∀ r : Nat, r < m → P (.int (r : Nat))) :
    EvG t c (tCall sp_draw [] E (tCons (tVar it) (tCons tb tNil))) σ H P := fun H1 g Q q => drawn ht g.2 (hm H1 g) h1 h2 fun r hr H2 g2 => q _ _ H2 g2 rfl (hp r hr) (.int _)
/-- one of a written list of still data is picked -/
theorem eg_pick {it : Nat} {ta : TA} {E : XK} (ht : σ[it]? = some (some (.ref t))) (h : EvGs t c ta σ H fun ds => ds ≠ [] ∧ ds.length ≤ 1000 ∧ ∀ d ∈ ds, P d) :
    EvG t c (tCall sp_pick [] E (tCons (tVar it) (tCons (tLst ta) tNil))) σ H P := fun H1 g Q q => by
  refine callA (consA (var_run ht (consA (lstA ?_))))
  refine h H1 g _ fun vs ds H2 g2 s ⟨hn, hl, hp⟩ iv => ⟨sz_of (by rw [iv.length]; omega), fun p hpn => ?_⟩
  have TP := g2.2.ex (Ex.new (o := .lst vs) hpn)
  refine ⟨t, c, p, vs, rfl, TP, g2.2.notin hpn, upd_same, fun z => ?_, by rw [iv.length]; omega, fun i x hx H' g3 => ?_⟩
  · subst z
    cases iv
    exact hn rfl
  · obtain ⟨d, hd, im⟩ := (iv.mono (Ex.new (o := .lst vs) hpn)).get hx
    have hm := List.mem_of_getElem? hd
    exact q x d H' ((g2.ex (Ex.new (o := .lst vs) hpn)).trans g3) (stills_mem s d hm) (hp d hm) (g3.im (stills_mem s d hm) im)
/-- one of a list at p -/
theorem eg_pickAt {it : Nat} {p : Addr} {xs : List V} {E : XK} (ht : σ[it]? = some (some (.ref t))) (hp : ∀ H1, Go t c H H1 → Ev tb σ H1 (.ref p)) (hn : p ∉ [t, c]) (hx : H p = some (.lst xs)) (iv : Ims H xs ds) (hs : stills ds = true) (h1 : ds ≠ []) (h2 : ds.length ≤ 1000) (hP : ∀ d ∈ ds, P d) :
    EvG t c (tCall sp_pick [] E (tCons (tVar it) (tCons tb tNil))) σ H P := fun H1 g Q q =>
  picked ht g.2 (hp H1 g) hn (g.at hn hx) (fun z => by subst z; cases iv; exact h1 rfl) (by rw [iv.length]; exact h2) fun i x hx H2 g2 => by
    obtain ⟨d, hd, im⟩ := iv.get hx
    have hm := List.mem_of_getElem? hd
    exact q x d H2 g2 (stills_mem hs d hm) (hP d hm) ((g.trans g2).im (stills_mem hs d hm) im)
/-- a def that draws -/
def SpG (D : List PyData → (PyData → Prop) → Prop) : Sp := fun vs H Q _ => ∃ (t c : Addr) (ws : List V) (ds : List PyData) (P : PyData → Prop), vs = .ref t :: ws ∧ Tape t c H ∧ stills ds = true ∧ Ims H ws ds ∧ D ds P ∧ ∀ v d H', Go t c H H' → still d = true → P d → Im H' v d → Q v H'
theorem eg_call {it : Nat} {ta : TA} {E : XK} {DD : List PyData → (PyData → Prop) → Prop} (ht : σ[it]? = some (some (.ref t))) (h : EvGs t c ta σ H fun ds => DD ds P) : EvG t c (tCall (SpG DD) [] E (tCons (tVar it) ta)) σ H P := fun H1 g Q q => by
  refine callA (consA (var_run ht ?_))
  refine h H1 g _ fun vs ds H2 g2 s p ivs => ⟨t, c, vs, ds, P, by rw [List.append_nil], g2.2, s, ivs, p, fun v d H3 g3 s3 p3 iv => q v d H3 (g2.trans g3) s3 p3 iv⟩
theorem SpG.len {DD : List PyData → (PyData → Prop) → Prop} {n : Nat} (h : ∀ ds P, DD ds P → ds.length + 1 = n) : ∀ vs H Q E, SpG DD vs H Q E → vs.length = n := fun vs H Q E ⟨t, c, ws, ds, P, e, _, _, iv, hd, _⟩ => by
  rw [e, List.length_cons, iv.length]; exact h ds P hd
/-- operators -/
theorem eg_catA {PA PB : List PyData → Prop} (ha : EvG t c ta σ H fun d => ∃ ds, d = .tuple ds ∧ PA ds) (hb : EvG t c tb σ H fun d => ∃ ds, d = .tuple ds ∧ PB ds) (hp : ∀ ds es, PA ds → PB es → ds.length + es.length ≤ 100000 ∧ P (.tuple (ds ++ es))) :
    EvG t c (tOp (rCatA K) ta tb) σ H P := fun H1 g Q q =>
  ha H1 g _ fun x d H2 g2 s2 ⟨ds, ed, pa⟩ ix => hb H2 (g.trans g2) _ fun y d' H3 g3 s3 ⟨es, ed', pb⟩ iy => by
    subst ed; subst ed'
    obtain ⟨p, xs, rfl, h1, h2⟩ := (g3.im s2 ix).t
    obtain ⟨p', xs', rfl, h1', h2'⟩ := iy.t
    obtain ⟨hz, pp⟩ := hp ds es pa pb
    have st : still (.tuple (ds ++ es)) = true := stills_app s2 s3
    refine ⟨p, p', xs, xs', rfl, rfl, SqT.of h1, SqT.of h1', sz_of (by rw [h2.length, h2'.length]; exact hz), fun z => ?_, fun _ z => ?_, fun _ _ r hr => ?_⟩
    · subst z; cases h2; exact q _ _ H3 (g2.trans g3) st pp (.tup h1' h2')
    · subst z; cases h2'; rw [List.append_nil] at pp st; exact q _ _ H3 (g2.trans g3) st pp (.tup h1 h2)
    · exact q _ _ _ ((g2.trans g3).ex (Ex.new hr)) st pp (.tup upd_same ((h2.append h2').mono (Ex.new hr)))
theorem eg_I0 {gg : Int → Int → Int} {PA PB : Int → Prop} (ha : EvG t c ta σ H fun d => ∃ i, d = .int i ∧ PA i) (hb : EvG t c tb σ H fun d => ∃ i, d = .int i ∧ PB i) (hp : ∀ i j, PA i → PB j → P (.int (gg i j))) :
    EvG t c (tOp (rI0 fun i j => .int (gg i j)) ta tb) σ H P := fun H1 g Q q =>
  ha H1 g _ fun x d H2 g2 s2 ⟨i, ed, pa⟩ ix => hb H2 (g.trans g2) _ fun y d' H3 g3 s3 ⟨j, ed', pb⟩ iy => by
    subst ed; subst ed'
    exact ⟨i, j, ix.i, iy.i, q _ _ H3 (g2.trans g3) rfl (hp i j pa pb) (.int _)⟩
theorem eg_B0 {gg : Int → Int → Bool} {PA PB : Int → Prop} (ha : EvG t c ta σ H fun d => ∃ i, d = .int i ∧ PA i) (hb : EvG t c tb σ H fun d => ∃ i, d = .int i ∧ PB i) (hp : ∀ i j, PA i → PB j → P (.bool (gg i j))) :
    EvG t c (tOp (rI0 fun i j => .bl (gg i j)) ta tb) σ H P := fun H1 g Q q =>
  ha H1 g _ fun x d H2 g2 s2 ⟨i, ed, pa⟩ ix => hb H2 (g.trans g2) _ fun y d' H3 g3 s3 ⟨j, ed', pb⟩ iy => by
    subst ed; subst ed'
    exact ⟨i, j, ix.i, iy.i, q _ _ H3 (g2.trans g3) rfl (hp i j pa pb) (.bl _)⟩
theorem eg_eqI {PA PB : Int → Prop} (ha : EvG t c ta σ H fun d => ∃ i, d = .int i ∧ PA i) (hb : EvG t c tb σ H fun d => ∃ i, d = .int i ∧ PB i) (hp : ∀ i j, PA i → PB j → P (.bool (decide (i = j)))) :
    EvG t c (tOp rEq ta tb) σ H P := fun H1 g Q q =>
  ha H1 g _ fun x d H2 g2 s2 ⟨i, ed, pa⟩ ix => hb H2 (g.trans g2) _ fun y d' H3 g3 s3 ⟨j, ed', pb⟩ iy => by
    subst ed; subst ed'
    rw [ix.i, iy.i]
    refine ⟨rfl, ?_⟩
    have h := q _ _ H3 (g2.trans g3) rfl (hp i j pa pb) (.bl (decide (i = j)))
    have e2 : decide (V.int i = V.int j) = decide (i = j) := by by_cases c : i = j <;> simp [c]
    rw [e2]; exact h
theorem eg_if (h : EvGT t c u σ H PB) (h1 : PB true → EvG t c ta σ H P) (h2 : PB false → EvG t c tb σ H P) : EvG t c (tIf u ta tb) σ H P := fun H1 g Q q => h H1 g _ fun b H2 g2 p => by
  cases b with
  | true =>
    show ta σ H2 Q
    exact h1 p H2 (g.trans g2) Q fun v d H3 g3 => q v d H3 (g2.trans g3)
  | false =>
    show tb σ H2 Q
    exact h2 p H2 (g.trans g2) Q fun v d H3 g3 => q v d H3 (g2.trans g3)
/-- tests -/
theorem egt_test (h : EvG t c te σ H fun d => ∃ b, d = .bool b ∧ PB b) : EvGT t c (tTest te) σ H PB := fun H1 g Q q => h H1 g _ fun v d H2 g2 s ⟨b, ed, p⟩ iv => by
  subst ed
  exact ⟨b, iv.b, q b H2 g2 p⟩
theorem egt_B (h : EvG t c te σ H fun d => ∃ b, d = .bool b ∧ PB b) : EvGT t c (tB te) σ H PB := fun H1 g Q q => h H1 g _ fun v d H2 g2 s ⟨b, ed, p⟩ iv => by
  subst ed
  exact ⟨b, iv.b, q b H2 g2 p⟩
theorem egt_d {b : Bool} (h : ∀ H1, Go t c H H1 → EvT u σ H1 b) (hp : PB b) : EvGT t c u σ H PB := fun H1 g Q q => h H1 g H1 (Ex.refl H1) Q fun H2 e => q b H2 (Go.of g.2 e) hp
theorem egt_and {PA PC : Bool → Prop} (h1 : EvGT t c u σ H PA) (h2 : PA true → EvGT t c u2 σ H PB) (hf : PA false → PC false) (ht : ∀ b, PA true → PB b → PC b) : EvGT t c (tAnd u u2) σ H PC := fun H1 g Q q => h1 H1 g _ fun b H2 g2 p => by
  cases b with
  | false =>
    show Q false H2
    exact q false H2 g2 (hf p)
  | true =>
    show u2 σ H2 Q
    exact h2 p H2 (g.trans g2) Q fun b H3 g3 p3 => q b H3 (g2.trans g3) (ht b p p3)
theorem egt_or {PA PC : Bool → Prop} (h1 : EvGT t c u σ H PA) (h2 : PA false → EvGT t c u2 σ H PB) (ht : PA true → PC true) (hf : ∀ b, PA false → PB b → PC b) : EvGT t c (tOr u u2) σ H PC := fun H1 g Q q => h1 H1 g _ fun b H2 g2 p => by
  cases b with
  | true =>
    show Q true H2
    exact q true H2 g2 (ht p)
  | false =>
    show u2 σ H2 Q
    exact h2 p H2 (g.trans g2) Q fun b H3 g3 p3 => q b H3 (g2.trans g3) (hf b p p3)
theorem egt_not (h1 : EvGT t c u σ H PB) : EvGT t c (tNot u) σ H (fun b => PB (!b)) := fun H1 g _ q => h1 H1 g _ fun b H2 g2 p => q (!b) H2 g2 (by show PB (!(!b)); rw [Bool.not_not]; exact p)
/-- statements -/
theorem q_asgG {i : Nat} (T : Tape t c H) (h : EvG t c te σ H P) (k : ∀ v d H1, Go t c H H1 → still d = true → P d → Im H1 v d → tz D (σ.set i (some v)) H1) : tSeq (tAsg te (gName i)) tz D σ H := h H (Go.refl T) _ fun v d H1 g s p iv => k v d H1 g s p iv
theorem s_asgG {i : Nat} (T : Tape t c H) (h : EvG t c te σ H P) (k : ∀ v d H1, Go t c H H1 → still d = true → P d → Im H1 v d → D.nx (σ.set i (some v)) H1) : tAsg te (gName i) D σ H := h H (Go.refl T) _ fun v d H1 g s p iv => k v d H1 g s p iv
theorem s_retG (T : Tape t c H) (h : EvG t c te σ H P) (k : ∀ v d H1, Go t c H H1 → still d = true → P d → Im H1 v d → D.rt v H1) : tRet te D σ H := h H (Go.refl T) _ fun v d H1 g s p iv => k v d H1 g s p iv
theorem q_whenG (T : Tape t c H) (h : EvGT t c u σ H PB) (h1 : PB true → ∀ H1, Go t c H H1 → tu { D with nx := tz D } σ H1) (h2 : PB false → ∀ H1, Go t c H H1 → tz D σ H1) : tSeq (tIfS u tu tNext) tz D σ H := h H (Go.refl T) _ fun b H1 g p => by
  cases b with
  | true =>
    show tu _ σ H1
    exact h1 p H1 g
  | false =>
    show tz D σ H1
    exact h2 p H1 g
theorem s_ifG (T : Tape t c H) (h : EvGT t c u σ H PB) (h1 : PB true → ∀ H1, Go t c H H1 → tu D σ H1) (h2 : PB false → ∀ H1, Go t c H H1 → tw D σ H1) : tIfS u tu tw D σ H := h H (Go.refl T) _ fun b H1 g p => by
  cases b with
  | true =>
    show tu _ σ H1
    exact h1 p H1 g
  | false =>
    show tw D σ H1
    exact h2 p H1 g
theorem q_ifG (T : Tape t c H) (h : EvGT t c u σ H PB) (h1 : PB true → ∀ H1, Go t c H H1 → tu { D with nx := tz D } σ H1) (h2 : PB false → ∀ H1, Go t c H H1 → tw { D with nx := tz D } σ H1) : tSeq (tIfS u tu tw) tz D σ H := s_ifG (D := { D with nx := tz D }) T h h1 h2
/-- found.append(e), found a list of its own -/
theorem s_appG {l : Addr} {xs : List V} (T : Tape t c H) (hl : H l = some (.lst xs)) (hn : l ∉ [t, c]) (ha : Ev ta σ H (.ref l)) (h : EvG t c te σ H P) (hz : xs.length < 100000) (k : ∀ v d H1, Go t c H H1 → still d = true → P d → H1 l = some (.lst xs) → Im (L2.upd H1 l (.lst (xs ++ [v]))) v d → D.nx σ (L2.upd H1 l (.lst (xs ++ [v])))) :
    tDrop (tBM K "list" rAppend ta (tCons te tNil)) D σ H := ha H (Ex.refl H) _ fun H1 e1 =>
  ⟨Or.inl ⟨rfl, xs, sq_of (e1 l _ hl)⟩, h H1 (Go.of T e1) _ fun v d H2 g2 s p iv => by
    have h2 := g2.at hn (e1 l _ hl)
    exact ⟨l, xs, v, rfl, rfl, h2, sz_lt hz, k v d H2 ((Go.of T e1).trans g2) s p h2 (iv.tx (tx_lst h2) s)⟩⟩
end
end Pd
set_option Elab.async false
set_option linter.all false
set_option maxRecDepth 100000
set_option maxHeartbeats 2000000
/-! Dk: dicts with text keys; lists that change, by data. -/
namespace Pd
open PySem PyProof.Rows L2 Evl
section
variable {K : PySem.W.Frag} {σ : L2.St} {H H' : Hp} {ta tb te tx tl to : TE} {u u2 : TT} {x y z v : V} {d d' e' : PyData} {ds es : List PyData} {D : Ends} {tz : TS}
theorem keyne {a b : Str} (h : decide (a = b) = false) : ¬ (Sum.inr a : Key) = Sum.inr b := fun e => of_decide_eq_false h (Sum.inr.inj e)
theorem ev_dget {i : Nat} {p : Addr} {k : Str} {kvs : List (Key × V)} (h : σ[i]? = some (some (.ref p))) (hd : H p = some (.dK kvs)) (hv : valV kvs (.inr k) = some v) : Ev (tDGet (tVar i) (tC (.str k))) σ H v := fun H1 e Q q =>
  ⟨.ref p, h, p, v, rfl, hv ▸ DGet.k (k := .inr k) (e _ _ hd), q H1 (Ex.refl H1)⟩
theorem ed_dget {i : Nat} {p : Addr} {k : Str} {kvs : List (Key × V)} (h : σ[i]? = some (some (.ref p))) (hd : H p = some (.dK kvs)) (hv : valV kvs (.inr k) = some v) (iv : Im H v d) : EvD (tDGet (tVar i) (tC (.str k))) σ H d := EvD.of_ev (ev_dget h hd hv) iv
theorem s_dputD {i : Nat} {p : Addr} {k : Str} {kvs : List (Key × V)} (h : σ[i]? = some (some (.ref p))) (hd : H p = some (.dK kvs)) (hl : kvs.length < 100000) (hv : EvD te σ H d) (kk : ∀ v H1, Ex H H1 → Im H1 v d → H1 p = some (.dK kvs) → D.nx σ (L2.upd H1 p (.dK (putK kvs (.inr k) v)))) : sDPut (tVar i) (tC (.str k)) te D σ H :=
  hv H (Ex.refl H) _ fun v H1 e iv => ⟨.ref p, h, p, _, rfl, DPut.k (k := .inr k) (e _ _ hd) (sz_lt hl), kk v H1 e iv (e _ _ hd)⟩
theorem s_dputN {i : Nat} {p : Addr} {k : Str} {kvs : List (Key × V)} (h : σ[i]? = some (some (.ref p))) (hd : H p = some (.dK kvs)) (hl : kvs.length < 100000) (hv : EvN te σ H ds) (kk : ∀ q xs H1, H q = none → Ex H H1 → H1 q = some (.lst xs) → Ims H1 xs ds → H1 p = some (.dK kvs) → D.nx σ (L2.upd H1 p (.dK (putK kvs (.inr k) (.ref q))))) : sDPut (tVar i) (tC (.str k)) te D σ H :=
  hv H (Ex.refl H) _ fun q xs H1 n e a b => ⟨.ref p, h, p, _, rfl, DPut.k (k := .inr k) (e _ _ hd) (sz_lt hl), kk q xs H1 n e a b (e _ _ hd)⟩
theorem q_dputD {i : Nat} {p : Addr} {k : Str} {kvs : List (Key × V)} (h : σ[i]? = some (some (.ref p))) (hd : H p = some (.dK kvs)) (hl : kvs.length < 100000) (hv : EvD te σ H d) (kk : ∀ v H1, Ex H H1 → Im H1 v d → H1 p = some (.dK kvs) → tz D σ (L2.upd H1 p (.dK (putK kvs (.inr k) v)))) : tSeq (sDPut (tVar i) (tC (.str k)) te) tz D σ H := s_dputD (D := { D with nx := tz D }) h hd hl hv kk
theorem tx_upd {p : Addr} {o : HO} (h : ∀ xs, H p ≠ some (.tup xs)) : Tx H (L2.upd H p o) := fun a xs ha => by
  by_cases c : a = p
  · subst c; exact absurd ha (h xs)
  · rw [upd_ne c]; exact ha
theorem tx_dk {p : Addr} {o : HO} {kvs : List (Key × V)} (h : H p = some (.dK kvs)) : Tx H (L2.upd H p o) := tx_upd fun xs z => by rw [h] at z; cases z
theorem ExM.updD {M : List Addr} {p : Addr} {o : HO} {kvs : List (Key × V)} (h : H p = some (.dK kvs)) (hm : p ∈ M) : ExM M H (L2.upd H p o) :=
  ⟨fun a u n ha => by rw [upd_ne (fun z => n (by rw [z]; exact hm))]; exact ha, tx_dk h⟩
/-- l.append(v), l known as a value -/
theorem s_appA {l : Addr} {xs : List V} (hl : H l = some (.lst xs)) (ha : Ev ta σ H (.ref l)) (h : EvD te σ H d) (hz : xs.length < 100000) (k : ∀ v H1, Ex H H1 → H1 l = some (.lst xs) → Im H1 v d → D.nx σ (L2.upd H1 l (.lst (xs ++ [v])))) :
    tDrop (tBM K "list" rAppend ta (tCons te tNil)) D σ H := ha H (Ex.refl H) _ fun H1 e1 =>
  ⟨Or.inl ⟨rfl, xs, sq_of (e1 l _ hl)⟩, h H1 e1 _ fun v H2 e2 iv => ⟨l, xs, v, rfl, rfl, e2 l _ (e1 l _ hl), sz_lt hz, k v H2 (e1.trans e2) (e2 l _ (e1 l _ hl)) iv⟩⟩
theorem q_appA {l : Addr} {xs : List V} (hl : H l = some (.lst xs)) (ha : Ev ta σ H (.ref l)) (h : EvD te σ H d) (hz : xs.length < 100000) (k : ∀ v H1, Ex H H1 → H1 l = some (.lst xs) → Im H1 v d → tz D σ (L2.upd H1 l (.lst (xs ++ [v])))) :
    tSeq (tDrop (tBM K "list" rAppend ta (tCons te tNil))) tz D σ H := s_appA (D := { D with nx := tz D }) hl ha h hz k
/-- l.pop() -/
theorem q_popA {l : Addr} {xs : List V} (hl : H l = some (.lst (xs ++ [x]))) (ha : Ev ta σ H (.ref l)) (k : ∀ H1, Ex H H1 → tz D σ (L2.upd H1 l (.lst xs))) : tSeq (tDrop (tBM0 K "list" rPop ta)) tz D σ H := ha H (Ex.refl H) _ fun H1 e1 =>
  ⟨Or.inl ⟨rfl, _, sq_of (e1 l _ hl)⟩, l, xs ++ [x], x, rfl, rfl, e1 _ _ hl, by simp, by
    have : (xs ++ [x]).dropLast = xs := by simp
    rw [this]; exact k H1 e1⟩
theorem ixN_last (n : Nat) : ixN (n + 1) (-1) = some n := by
  unfold ixN
  rw [if_neg (by decide), if_pos (by omega)]
  congr 1
  omega
/-- l[-1] = v -/
theorem q_setLast {l : Addr} {xs : List V} (hl : H l = some (.lst (xs ++ [x]))) (h : EvD te σ H d) (ho : Ev ta σ H (.ref l)) (k : ∀ v H1, Ex H H1 → H1 l = some (.lst (xs ++ [x])) → Im H1 v d → tz D σ (L2.upd H1 l (.lst (xs ++ [v])))) :
    tSeq (tAsg te (gSub ta (tUn (rU fun i => V.int (-i)) (tC (.int 1))) rSetL)) tz D σ H := h H (Ex.refl H) _ fun v H1 e1 iv => ho H1 e1 _ fun H2 e2 => ⟨1, rfl, by
    have h2 := (e1.trans e2) _ _ hl
    refine ⟨l, xs ++ [x], -1, xs.length, rfl, rfl, h2, ?_, ?_⟩
    · rw [List.length_append]; exact ixN_last _
    · have : (xs ++ [x]).set xs.length v = xs ++ [v] := by simp
      rw [this]
      exact k v H2 (e1.trans e2) h2 (iv.mono e2)⟩
end
end Pd
set_option Elab.async false
set_option linter.all false
set_option maxRecDepth 100000
set_option maxHeartbeats 4000000
namespace K97
open PySem PySem.Spec PyProof.Rows L2 Evl Pd
def topS (i : Nat) : Stmt := PySem.Challenge.pw_gleanworld_k97_whole_tellers_step_by_ste.main.body.getD i (.Pass ⟨0, 0, 0, 0⟩)
abbrev st_is_integer : Stmt := topS 1
theorem sc_is_integer : FnScope ["value"] ["value"] (defScope st_is_integer) := ⟨rfl, rfl, rfl, by decide +kernel, rfl, by decide +kernel, by decide +kernel⟩
abbrev st_is_count : Stmt := topS 2
theorem sc_is_count : FnScope ["value"] ["value"] (defScope st_is_count) := ⟨rfl, rfl, rfl, by decide +kernel, rfl, by decide +kernel, by decide +kernel⟩
abbrev st_is_index : Stmt := topS 7
theorem sc_is_index : FnScope ["value", "count"] ["value", "count"] (defScope st_is_index) := ⟨rfl, rfl, rfl, by decide +kernel, rfl, by decide +kernel, by decide +kernel⟩
abbrev st_filled : Stmt := topS 8
theorem sc_filled : FnScope ["operation", "counters", "last"] ["operation", "counters"] (defScope st_filled) := ⟨rfl, rfl, rfl, by decide +kernel, rfl, by decide +kernel, by decide +kernel⟩
abbrev st_first_state : Stmt := topS 9
theorem sc_first_state : FnScope ["teller"] ["teller"] (defScope st_first_state) := ⟨rfl, rfl, rfl, by decide +kernel, rfl, by decide +kernel, by decide +kernel⟩
abbrev st_holds : Stmt := topS 10
theorem sc_holds : FnScope ["test", "counters", "last"] ["test", "counters", "last"] (defScope st_holds) := ⟨rfl, rfl, rfl, by decide +kernel, rfl, by decide +kernel, by decide +kernel⟩
abbrev st_with_counter : Stmt := topS 11
theorem sc_with_counter : FnScope ["counters", "index", "worth"] ["counters", "index", "worth"] (defScope st_with_counter) := ⟨rfl, rfl, rfl, by decide +kernel, rfl, by decide +kernel, by decide +kernel⟩
abbrev st_kept_worth : Stmt := topS 12
theorem sc_kept_worth : FnScope ["last"] ["last"] (defScope st_kept_worth) := ⟨rfl, rfl, rfl, by decide +kernel, rfl, by decide +kernel, by decide +kernel⟩
abbrev st_inner_step : Stmt := topS 13
theorem sc_inner_step : FnScope ["state", "counters", "last", "frames", "block", "index", "statement", "onward"] ["state"] (defScope st_inner_step) := ⟨rfl, rfl, rfl, by decide +kernel, rfl, by decide +kernel, by decide +kernel⟩
abbrev st_next_of : Stmt := topS 14
theorem sc_next_of : FnScope ["state", "_", "counters", "last", "frames", "block", "index", "onward"] ["state"] (defScope st_next_of) := ⟨rfl, rfl, rfl, by decide +kernel, rfl, by decide +kernel, by decide +kernel⟩
abbrev st_told : Stmt := topS 15
theorem sc_told : FnScope ["state", "answer"] ["state", "answer"] (defScope st_told) := ⟨rfl, rfl, rfl, by decide +kernel, rfl, by decide +kernel, by decide +kernel⟩
abbrev st__law_tape : Stmt := topS 17
theorem sc__law_tape : FnScope ["script", "seed", "cell"] ["script"] (defScope st__law_tape) := ⟨rfl, rfl, rfl, by decide +kernel, rfl, by decide +kernel, by decide +kernel⟩
abbrev st__law_draw : Stmt := topS 18
theorem sc__law_draw : FnScope ["tape", "many", "cells", "number"] ["tape", "many"] (defScope st__law_draw) := ⟨rfl, rfl, rfl, by decide +kernel, rfl, by decide +kernel, by decide +kernel⟩
abbrev st__law_pick : Stmt := topS 19
theorem sc__law_pick : FnScope ["tape", "row"] ["tape", "row"] (defScope st__law_pick) := ⟨rfl, rfl, rfl, by decide +kernel, rfl, by decide +kernel, by decide +kernel⟩
abbrev st__law_same : Stmt := topS 20
theorem sc__law_same : FnScope ["one", "other", "k"] ["one", "other"] (defScope st__law_same) := ⟨rfl, rfl, rfl, by decide +kernel, rfl, by decide +kernel, by decide +kernel⟩
abbrev st__law_operation : Stmt := topS 21
theorem sc__law_operation : FnScope ["tape", "roots", "registers", "words", "word", "r", "q", "k", "i"] ["tape", "roots", "registers"] (defScope st__law_operation) := ⟨rfl, rfl, rfl, by decide +kernel, rfl, by decide +kernel, by decide +kernel⟩
abbrev st__law_shape : Stmt := topS 22
theorem sc__law_shape : FnScope ["tape"] ["tape"] (defScope st__law_shape) := ⟨rfl, rfl, rfl, by decide +kernel, rfl, by decide +kernel, by decide +kernel⟩
abbrev st__law_test : Stmt := topS 23
theorem sc__law_test : FnScope ["tape", "count", "depth", "kind"] ["tape", "count", "depth"] (defScope st__law_test) := ⟨rfl, rfl, rfl, by decide +kernel, rfl, by decide +kernel, by decide +kernel⟩
abbrev st__law_do_row : Stmt := topS 24
theorem sc__law_do_row : FnScope ["tape", "shape", "count", "operation"] ["tape", "shape", "count"] (defScope st__law_do_row) := ⟨rfl, rfl, rfl, by decide +kernel, rfl, by decide +kernel, by decide +kernel⟩
abbrev st__law_block : Stmt := topS 25
theorem sc__law_block : FnScope ["tape", "shape", "count", "depth", "many", "found", "turn", "kind", "test", "first"] ["tape", "shape", "count", "depth", "many"] (defScope st__law_block) := ⟨rfl, rfl, rfl, by decide +kernel, rfl, by decide +kernel, by decide +kernel⟩
abbrev st__law_teller : Stmt := topS 26
theorem sc__law_teller : FnScope ["tape", "shape", "count"] ["tape", "shape"] (defScope st__law_teller) := ⟨rfl, rfl, rfl, by decide +kernel, rfl, by decide +kernel, by decide +kernel⟩
abbrev st__law_voice : Stmt := topS 27
theorem sc__law_voice : FnScope ["teller"] ["teller"] (defScope st__law_voice) := ⟨rfl, rfl, rfl, by decide +kernel, rfl, by decide +kernel, by decide +kernel⟩
abbrev st__law_holds : Stmt := topS 28
theorem sc__law_holds : FnScope ["test", "counters", "last", "turned", "turn", "is_so"] ["test", "counters", "last"] (defScope st__law_holds) := ⟨rfl, rfl, rfl, by decide +kernel, rfl, by decide +kernel, by decide +kernel⟩
abbrev st__law_counted : Stmt := topS 29
theorem sc__law_counted : FnScope ["voice", "index", "number", "counters"] ["voice", "index", "number"] (defScope st__law_counted) := ⟨rfl, rfl, rfl, by decide +kernel, rfl, by decide +kernel, by decide +kernel⟩
abbrev st__law_inner : Stmt := topS 30
theorem sc__law_inner : FnScope ["voice", "frames", "last", "block", "index", "statement", "has"] ["voice"] (defScope st__law_inner) := ⟨rfl, rfl, rfl, by decide +kernel, rfl, by decide +kernel, by decide +kernel⟩
abbrev st__law_choice : Stmt := topS 31
theorem sc__law_choice : FnScope ["voice", "turn", "frames", "block", "index", "operation"] ["voice"] (defScope st__law_choice) := ⟨rfl, rfl, rfl, by decide +kernel, rfl, by decide +kernel, by decide +kernel⟩
abbrev st__law_hear : Stmt := topS 32
theorem sc__law_hear : FnScope ["voice", "answer"] ["voice", "answer"] (defScope st__law_hear) := ⟨rfl, rfl, rfl, by decide +kernel, rfl, by decide +kernel, by decide +kernel⟩
abbrev st__law_is_due : Stmt := topS 33
theorem sc__law_is_due : FnScope ["found", "voice", "operation"] ["found", "voice"] (defScope st__law_is_due) := ⟨rfl, rfl, rfl, by decide +kernel, rfl, by decide +kernel, by decide +kernel⟩
abbrev st__law_shows : Stmt := topS 34
theorem sc__law_shows : FnScope ["state", "voice"] ["state", "voice"] (defScope st__law_shows) := ⟨rfl, rfl, rfl, by decide +kernel, rfl, by decide +kernel, by decide +kernel⟩
abbrev st__law_talk : Stmt := topS 35
theorem sc__law_talk : FnScope ["tape", "teller", "turns", "state", "voice", "seen", "turn", "found", "answer", "again"] ["tape", "teller", "turns"] (defScope st__law_talk) := ⟨rfl, rfl, rfl, by decide +kernel, rfl, by decide +kernel, by decide +kernel⟩
abbrev st__law_long : Stmt := topS 36
theorem sc__law_long : FnScope ["tape", "kind", "many", "one"] ["tape"] (defScope st__law_long) := ⟨rfl, rfl, rfl, by decide +kernel, rfl, by decide +kernel, by decide +kernel⟩
abbrev st_law : Stmt := topS 37
theorem sc_law : FnScope ["script", "tape", "shape", "turn"] ["script"] (defScope st_law) := ⟨rfl, rfl, rfl, by decide +kernel, rfl, by decide +kernel, by decide +kernel⟩
/-- what the top has written of plain names -/
structure Txt (K : PySem.W.Frag) (mg : Str → Option Value) : Prop where
  n_isinstance : mg "isinstance" = none
  n_len : mg "len" = none
  n_all : mg "all" = none
  n_tuple : mg "tuple" = none
  n_str : mg "str" = none
  n_int : mg "int" = none
  n_bool : mg "bool" = none
  n_abs : mg "abs" = none
  n_list : mg "list" = none
  n_range : mg "range" = none
  c_LIMIT : ∃ u, mg "LIMIT" = some u ∧ RelV (.int 1000000000000000000) u
  c_MOST_INNER : ∃ u, mg "MOST_INNER" = some u ∧ RelV (.int 1000) u
  c_COUNTER : ∃ u, mg "COUNTER" = some u ∧ RelV (.str "counter") u
end K97
set_option Elab.async false
set_option linter.all false
set_option maxRecDepth 100000
set_option maxHeartbeats 4000000
namespace K97
open PySem PySem.Spec PyProof.Rows L2 Evl Pd
def isIntB : PyData → Bool
  | .int _ => true
  | .bool _ => true
  | _ => false
def isBoolB : PyData → Bool
  | .bool _ => true
  | _ => false
def isTupB : PyData → Bool
  | .tuple _ => true
  | _ => false
def isStrB : PyData → Bool
  | .str _ => true
  | _ => false
theorem ty_int : ∀ d, kitB (tyN d) "int" = some (isIntB d)
  | .none => kt_NoneType_int
  | .bool _ => kt_bool_int
  | .int _ => kt_int_int
  | .str _ => kt_str_int
  | .list _ => kt_list_int
  | .tuple _ => kt_tuple_int
  | .dict _ => kt_dict_int
theorem ty_bool : ∀ d, kitB (tyN d) "bool" = some (isBoolB d)
  | .none => kt_NoneType_bool
  | .bool _ => kt_bool_bool
  | .int _ => kt_int_bool
  | .str _ => kt_str_bool
  | .list _ => kt_list_bool
  | .tuple _ => kt_tuple_bool
  | .dict _ => kt_dict_bool
theorem ty_tup : ∀ d, kitB (tyN d) "tuple" = some (isTupB d)
  | .none => kt_NoneType_tuple
  | .bool _ => kt_bool_tuple
  | .int _ => kt_int_tuple
  | .str _ => kt_str_tuple
  | .list _ => kt_list_tuple
  | .tuple _ => kt_tuple_tuple
  | .dict _ => kt_dict_tuple
theorem ty_str : ∀ d, kitB (tyN d) "str" = some (isStrB d)
  | .none => kt_NoneType_str
  | .bool _ => kt_bool_str
  | .int _ => kt_int_str
  | .str _ => kt_str_str
  | .list _ => kt_list_str
  | .tuple _ => kt_tuple_str
  | .dict _ => kt_dict_str
/-- a whole number, no bool -/
def isInt : PyData → Bool
  | .int _ => true
  | _ => false
def isCount : PyData → Bool
  | .int i => decide (0 ≤ i)
  | _ => false
def isIndex (n : Int) : PyData → Bool
  | .int i => decide (0 ≤ i) && decide (i < n)
  | _ => false
def sp_is_integer : Sp := SpQ fun ds d => ∃ x, ds = [x] ∧ d = .bool (isInt x)
def sp_is_count : Sp := SpQ fun ds d => ∃ x, ds = [x] ∧ d = .bool (isCount x)
def sp_is_index : Sp := SpQ fun ds d => ∃ x n, ds = [x, .int n] ∧ d = .bool (isIndex n x)
section
variable {P : Program} {w : World} {K : PySem.W.Frag} {mg : Str → Option Value} {base : Heap}
theorem cal_is_integer (S : Src K mg "is_integer" st_is_integer ["value"]) (T : Txt K mg) : Cal P w K mg base CX0 1 "is_integer" ["value"] sp_is_integer := by
  have sc := sc_is_integer
  refine S.cal (k := 0) sc (SpQ.len fun ds d h => by obtain ⟨x, rfl, _⟩ := h; rfl) (fun f cdv A outer s H vs Q E hr h => ⟨_, (pss_one (ps_ret (pe_and (pe_callB (k_isi (K := K) rfl) (by rfl) T.n_isinstance (by decide +kernel) (pa_cons (pv 0) (pa_cons (pe_bltn (v := .ty "int") (by rfl) T.n_int (by decide +kernel) rfl) pa_nil))) (pe_one (pe_not (pe_callB (k_isi (K := K) rfl) (by rfl) T.n_isinstance (by decide +kernel) (pa_cons (pv 0) (pa_cons (pe_bltn (v := .ty "bool") (by rfl) T.n_bool (by decide +kernel) rfl) pa_nil)))))))), ?_⟩)
  obtain ⟨ds, d, i, ⟨x, rfl, rfl⟩, k⟩ := h
  obtain ⟨v, rfl, iv⟩ := i.one
  refine s_retD (EvD.is (ed_and (ed_isi (ed_var rfl iv) (ty_int x)) (fun _ => ed_not (ed_isi (ed_var rfl iv) (ty_bool x)))) ?_) fun v1 H1 e1 iv1 => k v1 H1 e1 iv1
  cases x <;> rfl
theorem cal_is_count (S : Src K mg "is_count" st_is_count ["value"]) (T : Txt K mg) (C_is_integer : Cal P w K mg base CX0 1 "is_integer" ["value"] sp_is_integer) : Cal P w K mg base CX0 2 "is_count" ["value"] sp_is_count := by
  have sc := sc_is_count
  refine S.cal (k := 1) sc (SpQ.len fun ds d h => by obtain ⟨x, rfl, _⟩ := h; rfl) (fun f cdv A outer s H vs Q E hr h => ⟨_, (pss_one (ps_ret (pe_and (pe_cal C_is_integer (hr.mono (by first | decide | omega)) rfl pass0 (pa_cons (pv 0) pa_nil)) (pe_one (pe_cmpR op_ge (pv 0) pe_int (nomark _)))))), ?_⟩)
  obtain ⟨ds, d, i, ⟨x, rfl, rfl⟩, k⟩ := h
  obtain ⟨v, rfl, iv⟩ := i.one
  refine s_retD (d := .bool (isCount x)) ?_ fun v1 H1 e1 iv1 => k v1 H1 e1 iv1
  have h1 : EvD (tCall sp_is_integer [] E0 (tCons (tVar 0) tNil)) (L2.start ["value"] [v]) H (.bool (isInt x)) := ed_callQ (ea1 (ed_var rfl iv) ea0) ⟨x, rfl, rfl⟩
  cases x with
  | int j => exact ed_and (a := true) h1 (fun _ => ed_B0 (ed_var rfl iv) (ed_i 0))
  | _ => exact ed_and (a := false) (b := false) h1 (fun z => by cases z)
theorem cal_is_index (S : Src K mg "is_index" st_is_index ["value", "count"]) (T : Txt K mg) (C_is_count : Cal P w K mg base CX0 2 "is_count" ["value"] sp_is_count) : Cal P w K mg base CX0 3 "is_index" ["value", "count"] sp_is_index := by
  have sc := sc_is_index
  refine S.cal (k := 2) sc (SpQ.len fun ds d h => by obtain ⟨x, n, rfl, _⟩ := h; rfl) (fun f cdv A outer s H vs Q E hr h => ⟨_, (pss_one (ps_ret (pe_and (pe_cal C_is_count (hr.mono (by first | decide | omega)) rfl pass0 (pa_cons (pv 0) pa_nil)) (pe_one (pe_cmpR op_lt (pv 0) (pv 1) (nomark _)))))), ?_⟩)
  obtain ⟨ds, d, i, ⟨x, n, rfl, rfl⟩, k⟩ := h
  obtain ⟨v, u, rfl, iv, iu⟩ := i.two
  refine s_retD (d := .bool (isIndex n x)) ?_ fun v1 H1 e1 iv1 => k v1 H1 e1 iv1
  have h1 : EvD (tCall sp_is_count [] E0 (tCons (tVar 0) tNil)) (L2.start ["value", "count"] [v, u]) H (.bool (isCount x)) := ed_callQ (ea1 (ed_var rfl iv) ea0) ⟨x, rfl, rfl⟩
  cases x with
  | int j => exact ed_and h1 (fun _ => ed_B0 (ed_var rfl iv) (ed_var rfl iu))
  | _ => exact ed_and (a := false) (b := false) h1 (fun z => by cases z)
end
end K97
set_option Elab.async false
set_option linter.all false
set_option maxRecDepth 100000
set_option maxHeartbeats 4000000
namespace K97
open PySem PySem.Spec PyProof.Rows L2 Evl Pd
/-- an answer: its word, what stands beside it -/
abbrev Ans : Type := Str × Option PyData
def eAns : Ans → PyData
  | (w, none) => .tuple [.str w]
  | (w, some d) => .tuple [.str w, d]
def eLast : Option Ans → PyData
  | none => .none
  | some a => eAns a
def keptW : Option Ans → Int
  | some (_, some (.int i)) => i
  | _ => 0
abbrev eI (cs : List Int) : PyData := .tuple (cs.map .int)
def clip (n : Int) : Int := if (if n < 0 then -n else n) < 1000000000000000000 then n else 0
def sp_kept_worth : Sp := SpQ fun ds d => ∃ a : Option Ans, ds = [eLast a] ∧ d = .int (keptW a)
def sp_with_counter : Sp := SpQ fun ds d => ∃ (cs : List Int) (i : Nat) (n : Int), ds = [eI cs, .int (i : Nat), .int n] ∧ i < cs.length ∧ cs.length ≤ 1000 ∧ d = eI (cs.set i (clip n))
section
variable {P : Program} {w : World} {K : PySem.W.Frag} {mg : Str → Option Value} {base : Heap}
theorem cal_kept_worth (S : Src K mg "kept_worth" st_kept_worth ["last"]) (T : Txt K mg) (C_is_integer : Cal P w K mg base CX0 1 "is_integer" ["value"] sp_is_integer) : Cal P w K mg base CX0 2 "kept_worth" ["last"] sp_kept_worth := by
  have sc := sc_kept_worth
  refine S.cal (k := 1) sc (SpQ.len fun ds d h => by obtain ⟨x, rfl, _⟩ := h; rfl) (fun f cdv A outer s H vs Q E hr h => ⟨_, (pss_cons (ps_if (PW.pt (pw_or (pt_cmpR op_isN (pv 0) pe_non (nomark _)) (pw_or (pt_cmpR op_ne (pe_callB (k_len_seq (K := K) rfl) (by rfl) T.n_len PySem.boot_len (pa_cons (pv 0) pa_nil)) pe_int (nomark _)) (pw_or1 (pt_not (pt_val (pe_cal C_is_integer (hr.mono (by first | decide | omega)) rfl pass0 (pa_cons (pe_ix (k_ix_tup (K := K) rfl) (pv 0) pe_int (fun _ _ => rfl)) pa_nil)))))))) (pss_one (ps_ret pe_int)) pss_nil)
  (pss_one (ps_ret (pe_ix (k_ix_tup (K := K) rfl) (pv 0) pe_int (fun _ _ => rfl))))), ?_⟩)
  obtain ⟨ds, d, i, ⟨a, rfl, rfl⟩, k⟩ := h
  obtain ⟨v, rfl, iv⟩ := i.one
  have hv : ∀ {H1}, Ex H H1 → EvD (tVar 0) (L2.start ["last"] [v]) H1 (eLast a) := fun e => ed_var rfl (iv.mono e)
  rcases a with _ | ⟨u, _ | x⟩
  · refine q_when (b := true) (et_or (a := true) (b := true) (et_D (EvD.is (ed_isN (hv (Ex.refl H))) rfl)) (fun z => by cases z)) ?_ (fun z => by cases z)
    intro _ H1 e1
    exact s_retD (ed_i 0) fun v1 H2 e2 iv1 => k v1 H2 (e1.trans e2) iv1
  · refine q_when (b := true) (et_is (et_or (et_D (EvD.is (ed_isN (hv (Ex.refl H))) rfl)) (fun _ => et_or (a := true) (b := true) (et_D (EvD.is (ed_neI (ed_lenT (ds := [.str u]) (hv (Ex.refl H))) (ed_i 2)) rfl)) (fun z => by cases z))) rfl) ?_ (fun z => by cases z)
    intro _ H1 e1
    exact s_retD (ed_i 0) fun v1 H2 e2 iv1 => k v1 H2 (e1.trans e2) iv1
  · refine q_when (b := !isInt x) (et_is (et_or (et_D (EvD.is (ed_isN (hv (Ex.refl H))) rfl)) (fun _ => et_or (a := false) (et_D (EvD.is (ed_neI (ed_lenT (ds := [.str u, x]) (hv (Ex.refl H))) (ed_i 2)) rfl)) (fun _ => et_not (et_DB (ed_callQ (ea1 (ed_ixT (ds := [.str u, x]) (hv (Ex.refl H)) (ed_i 1) rfl) ea0) ⟨x, rfl, rfl⟩))))) rfl) ?_ ?_
    · intro hb H1 e1
      refine s_retD (ed_i 0) fun v1 H2 e2 iv1 => k v1 H2 (e1.trans e2) ?_
      have : keptW (some (u, some x)) = 0 := by cases x <;> first | rfl | cases hb
      rw [this]; exact iv1
    · intro hb H1 e1
      cases x with
      | int j => exact s_retD (ed_ixT (ds := [.str u, .int j]) (hv e1) (ed_i 1) rfl) fun v1 H2 e2 iv1 => k v1 H2 (e1.trans e2) iv1
      | _ => cases hb
theorem cal_with_counter (S : Src K mg "with_counter" st_with_counter ["counters", "index", "worth"]) (T : Txt K mg) : Cal P w K mg base CX0 1 "with_counter" ["counters", "index", "worth"] sp_with_counter := by
  have sc := sc_with_counter
  refine S.cal (k := 0) sc (SpQ.len fun ds d h => by obtain ⟨_, _, _, rfl, _⟩ := h; rfl) (fun f cdv A outer s H vs Q E hr h => ⟨_, (pss_one (ps_ret (pe_op (k_catA (K := K) rfl) (pe_op (k_catA (K := K) rfl) (pe_slice (k_sl_tupA (K := K) rfl) (pv 0) po_none (po_some (pv 1))) (pe_tup (pa_cons (pe_ifExp (pt_cmpR op_lt (pe_callB call_abs (by rfl) T.n_abs (by decide +kernel) (pa_cons (pv 2) pa_nil)) (pe_gl rfl T.c_LIMIT) (nomark _)) (pv 2) pe_int) pa_nil))) (pe_slice (k_sl_tupA (K := K) rfl) (pv 0) (po_some (pe_op op_add (pv 1) pe_int)) po_none)))), ?_⟩)
  obtain ⟨ds, d, i, ⟨cs, j, n, rfl, hj, hl, rfl⟩, k⟩ := h
  obtain ⟨v, u, t, rfl, iv, iu, it⟩ := i.three
  have eu := iu.i
  have et := it.i
  subst eu et
  have hc : cs.set j (clip n) = cs.take j ++ [clip n] ++ cs.drop (j + 1) := by
    rw [List.set_eq_take_append_cons_drop, if_pos hj, List.append_assoc]; rfl
  refine s_retD (EvD.is (ed_catA (ed_catA (ds := (cs.take j).map .int) (es := [.int (clip n)]) (EvD.is (ed_slA (ed_var rfl iv) eo_none (eo_i (ed_var rfl (.int (j : Nat))))) (by rw [cutD_to, List.map_take])) (ed_tup (ea1 (EvD.is (ed_if (d := .int (clip n)) (b := decide ((if n < 0 then -n else n) < 1000000000000000000)) (et_D (ed_B0 (ed_abs (ed_var rfl (.int n))) (ed_c (.int _)))) (fun h => ?_) (fun h => ?_)) rfl) ea0) (by show 1 ≤ 100000; omega)) (by rw [List.length_map, List.length_take]; show _ + 1 ≤ _; omega))
    (EvD.is (ed_slA (ed_var rfl iv) (eo_i (EvD.is (ed_I0 (g := fun i j => i + j) (ed_var rfl (.int (j : Nat))) (ed_i 1)) (show PyData.int ((j : Int) + 1) = .int ((j + 1 : Nat) : Int) from rfl))) eo_none) (show _ = PyData.tuple ((cs.drop (j + 1)).map .int) by rw [cutD_from, List.map_drop])) (by rw [List.length_append, List.length_map, List.length_map, List.length_take, List.length_drop]; show _ + 1 + _ ≤ _; omega)) (by rw [hc]; show _ = PyData.tuple ((cs.take j ++ [clip n] ++ cs.drop (j + 1)).map .int); rw [List.map_append, List.map_append]; rfl)) fun v1 H2 e2 iv1 => k v1 H2 e2 iv1
  · have : clip n = n := by unfold clip; rw [if_pos (of_decide_eq_true h)]
    rw [this]
    exact ed_var rfl (.int n)
  · have : clip n = 0 := by unfold clip; rw [if_neg (of_decide_eq_false h)]
    rw [this]
    exact ed_i 0
end
end K97
set_option Elab.async false
set_option linter.all false
set_option maxRecDepth 100000
set_option maxHeartbeats 4000000
namespace K97
open PySem PySem.Spec PyProof.Rows L2 Evl Pd
inductive Tst
  | ans (w : Str) | tru | less (i : Nat) (n : Int) | is (i : Nat) (n : Int) | nt (t : Tst)
def eTst : Tst → PyData
  | .ans w => .tuple [.str "answer", .str w]
  | .tru => .tuple [.str "true"]
  | .less i n => .tuple [.str "less", .int (i : Nat), .int n]
  | .is i n => .tuple [.str "is", .int (i : Nat), .int n]
  | .nt t => .tuple [.str "not", eTst t]
def Tst.deep : Tst → Nat
  | .nt t => t.deep + 1
  | _ => 0
def TstOk (c : Nat) : Tst → Prop
  | .less i _ => i < c
  | .is i _ => i < c
  | .nt t => TstOk c t
  | _ => True
def sameT : PyData := .tuple [.str "same", .bool true]
def hold (cs : List Int) (a : Option Ans) : Tst → Bool
  | .ans w => match a with | none => false | some (u, _) => decide (u = w)
  | .tru => PyData.eqv (eLast a) sameT
  | .less i n => decide (cs.getD i 0 < n)
  | .is i n => decide (cs.getD i 0 = n)
  | .nt t => !hold cs a t
def LastOk (a : Option Ans) : Prop := SeqAt.shaped (eLast a) = true
def sp_holds (n : Nat) : Sp := SpQ fun ds d => ∃ (t : Tst) (cs : List Int) (a : Option Ans), ds = [eTst t, eI cs, eLast a] ∧ t.deep ≤ n ∧ TstOk cs.length t ∧ LastOk a ∧ d = .bool (hold cs a t)
theorem at_c {cs : List Int} {i : Nat} (h : i < cs.length) : (cs.map PyData.int)[i]? = some (.int (cs.getD i 0)) := by
  rw [List.getElem?_map, List.getD_eq_getElem?_getD, List.getElem?_eq_getElem h]; rfl
section
variable {P : Program} {w : World} {K : PySem.W.Frag} {mg : Str → Option Value} {base : Heap}
theorem cal_false {x : Str} {st : Stmt} {ps : List Str} {CX : CXT} {k : Nat} (S : Src K mg x st ps) : Cal P w K mg base CX k x ps (fun _ _ _ _ => False) := by
  obtain ⟨f, fd, hm, hF, hb⟩ := S.ex
  exact ⟨f, fd, hm, hF.kp, hb, ⟨fun _ _ _ _ h => h.elim, fun _ _ _ _ _ _ _ _ _ _ _ _ _ h => h.elim⟩⟩
theorem holds_step (S : Src K mg "holds" st_holds ["test", "counters", "last"]) (T : Txt K mg) {k n : Nat} {sp : Sp} (C_holds : Cal P w K mg base CX0 k "holds" ["test", "counters", "last"] sp) (hn : ∀ m, n = m + 1 → sp = sp_holds m) : Cal P w K mg base CX0 (k + 1) "holds" ["test", "counters", "last"] (sp_holds n) := by
  have sc := sc_holds
  refine S.cal (k := k) sc (SpQ.len fun ds d h => by obtain ⟨_, _, _, rfl, _⟩ := h; rfl) (fun f cdv A outer s H vs Q E hr h => ⟨_, (pss_cons (ps_if (pt_cmpR op_eq (pe_ix (k_ix_tup (K := K) rfl) (pv 0) pe_int (fun _ _ => rfl)) pe_str (nomark _)) (pss_one (ps_ret (pe_and (pe_cmpR op_notN (pv 2) pe_non (nomark _)) (pe_one (pe_cmpR op_eq (pe_ix (k_ix_tup (K := K) rfl) (pv 2) pe_int (fun _ _ => rfl)) (pe_ix (k_ix_tup (K := K) rfl) (pv 0) pe_int (fun _ _ => rfl)) (nomark _)))))) pss_nil)
  (pss_cons (ps_if (pt_cmpR op_eq (pe_ix (k_ix_tup (K := K) rfl) (pv 0) pe_int (fun _ _ => rfl)) pe_str (nomark _)) (pss_one (ps_ret (pe_cmpR (k_eqD (K := K) rfl (hr.units)) (pv 2) (pe_tup (pa_cons pe_str (pa_cons pe_bl pa_nil))) (nomark _)))) pss_nil)
  (pss_cons (ps_if (pt_cmpR op_eq (pe_ix (k_ix_tup (K := K) rfl) (pv 0) pe_int (fun _ _ => rfl)) pe_str (nomark _)) (pss_one (ps_ret (pe_not (pe_cal C_holds (hr.mono (by first | decide | omega)) rfl pass0 (pa_cons (pe_ix (k_ix_tup (K := K) rfl) (pv 0) pe_int (fun _ _ => rfl)) (pa_cons (pv 1) (pa_cons (pv 2) pa_nil))))))) pss_nil)
  (pss_one (ps_ret (pe_ifExp (pt_cmpR op_eq (pe_ix (k_ix_tup (K := K) rfl) (pv 0) pe_int (fun _ _ => rfl)) pe_str (nomark _)) (pe_cmpR op_lt (pe_ix (k_ix_tup (K := K) rfl) (pv 1) (pe_ix (k_ix_tup (K := K) rfl) (pv 0) pe_int (fun _ _ => rfl)) (fun _ _ => rfl)) (pe_ix (k_ix_tup (K := K) rfl) (pv 0) pe_int (fun _ _ => rfl)) (nomark _)) (pe_cmpR op_eq (pe_ix (k_ix_tup (K := K) rfl) (pv 1) (pe_ix (k_ix_tup (K := K) rfl) (pv 0) pe_int (fun _ _ => rfl)) (fun _ _ => rfl)) (pe_ix (k_ix_tup (K := K) rfl) (pv 0) pe_int (fun _ _ => rfl)) (nomark _)))))))), ?_⟩)
  obtain ⟨ds, d, i, ⟨t, cs, a, rfl, hd, ok, lo, rfl⟩, kk⟩ := h
  obtain ⟨v1, v2, v3, rfl, i1, i2, i3⟩ := i.three
  have w1 : ∀ {H1}, Ex H H1 → EvD (tVar 0) (L2.start ["test", "counters", "last"] [v1, v2, v3]) H1 (eTst t) := fun e => ed_var rfl (i1.mono e)
  have w2 : ∀ {H1}, Ex H H1 → EvD (tVar 1) (L2.start ["test", "counters", "last"] [v1, v2, v3]) H1 (eI cs) := fun e => ed_var rfl (i2.mono e)
  have w3 : ∀ {H1}, Ex H H1 → EvD (tVar 2) (L2.start ["test", "counters", "last"] [v1, v2, v3]) H1 (eLast a) := fun e => ed_var rfl (i3.mono e)
  have e0 := Ex.refl H
  cases t with
  | ans u =>
    have it : ∀ {H1}, Ex H H1 → EvD (tOp (rIxT K) (tVar 0) (tC (.int 0))) (L2.start ["test", "counters", "last"] [v1, v2, v3]) H1 (.str "answer") := fun e => ed_ixT (w1 e) (ed_i 0) rfl
    refine q_when (b := true) (et_is (et_D (ed_eqS (it e0) (ed_s "answer"))) (by decide +kernel)) ?_ (fun z => by cases z)
    intro _ H1 e1
    refine s_retD (d := .bool (hold cs a (.ans u))) ?_ fun v H2 e2 iv => kk v H2 (e1.trans e2) iv
    rcases a with _ | ⟨x, _ | y⟩
    · exact ed_and (b := false) (EvD.is (ed_notN (w3 e1)) rfl) (fun z => by cases z)
    · exact ed_and (a := true) (EvD.is (ed_notN (w3 e1)) rfl) (fun _ => ed_eqS (ed_ixT (ds := [.str x]) (w3 e1) (ed_i 0) rfl) (ed_ixT (w1 e1) (ed_i 1) rfl))
    · exact ed_and (a := true) (EvD.is (ed_notN (w3 e1)) rfl) (fun _ => ed_eqS (ed_ixT (ds := [.str x, y]) (w3 e1) (ed_i 0) rfl) (ed_ixT (w1 e1) (ed_i 1) rfl))
  | tru =>
    have it : ∀ {H1}, Ex H H1 → EvD (tOp (rIxT K) (tVar 0) (tC (.int 0))) (L2.start ["test", "counters", "last"] [v1, v2, v3]) H1 (.str "true") := fun e => ed_ixT (w1 e) (ed_i 0) rfl
    refine q_when (b := false) (et_is (et_D (ed_eqS (it e0) (ed_s "answer"))) (by decide +kernel)) (fun z => by cases z) ?_
    intro _ H1 e1
    refine q_when (b := true) (et_is (et_D (ed_eqS (it e1) (ed_s "true"))) (by decide +kernel)) ?_ (fun z => by cases z)
    intro _ H2 e2
    have sh : SeqAt.shaped sameT = true := by decide +kernel
    exact s_retD (ed_eqD (w3 (e1.trans e2)) (ed_tup (ea1 (ed_s _) (ea1 (ed_b true) ea0)) (by show 2 ≤ 100000; omega)) lo sh) fun v H3 e3 iv => kk v H3 ((e1.trans e2).trans e3) iv
  | nt t =>
    have it : ∀ {H1}, Ex H H1 → EvD (tOp (rIxT K) (tVar 0) (tC (.int 0))) (L2.start ["test", "counters", "last"] [v1, v2, v3]) H1 (.str "not") := fun e => ed_ixT (w1 e) (ed_i 0) rfl
    obtain ⟨m, hm⟩ : ∃ m, n = m + 1 := ⟨n - 1, by have : t.deep + 1 ≤ n := hd; omega⟩
    have esp := hn m hm
    subst esp
    refine q_when (b := false) (et_is (et_D (ed_eqS (it e0) (ed_s "answer"))) (by decide +kernel)) (fun z => by cases z) ?_
    intro _ H1 e1
    refine q_when (b := false) (et_is (et_D (ed_eqS (it e1) (ed_s "true"))) (by decide +kernel)) (fun z => by cases z) ?_
    intro _ H2 e2
    have e02 := e1.trans e2
    refine q_when (b := true) (et_is (et_D (ed_eqS (it e02) (ed_s "not"))) (by decide +kernel)) ?_ (fun z => by cases z)
    intro _ H3 e3
    have e03 := e02.trans e3
    exact s_retD (ed_not (ed_callQ (ea1 (ed_ixT (w1 e03) (ed_i 1) rfl) (ea1 (w2 e03) (ea1 (w3 e03) ea0))) ⟨t, cs, a, rfl, by have : t.deep + 1 ≤ n := hd; omega, ok, lo, rfl⟩)) fun v H4 e4 iv => kk v H4 (e03.trans e4) iv
  | less j q =>
    have it : ∀ {H1}, Ex H H1 → EvD (tOp (rIxT K) (tVar 0) (tC (.int 0))) (L2.start ["test", "counters", "last"] [v1, v2, v3]) H1 (.str "less") := fun e => ed_ixT (w1 e) (ed_i 0) rfl
    refine q_when (b := false) (et_is (et_D (ed_eqS (it e0) (ed_s "answer"))) (by decide +kernel)) (fun z => by cases z) ?_
    intro _ H1 e1
    refine q_when (b := false) (et_is (et_D (ed_eqS (it e1) (ed_s "true"))) (by decide +kernel)) (fun z => by cases z) ?_
    intro _ H2 e2
    have e02 := e1.trans e2
    refine q_when (b := false) (et_is (et_D (ed_eqS (it e02) (ed_s "not"))) (by decide +kernel)) (fun z => by cases z) ?_
    intro _ H3 e3
    have e03 := e02.trans e3
    exact s_retD (ed_if (b := true) (et_is (et_D (ed_eqS (it e03) (ed_s "less"))) (by decide +kernel)) (fun _ => ed_B0 (g := fun i j => decide (i < j)) (ed_ixT (w2 e03) (ed_ixT (w1 e03) (ed_i 1) rfl) (atI_nat (at_c ok))) (ed_ixT (w1 e03) (ed_i 2) rfl)) (fun z => by cases z)) fun v H4 e4 iv => kk v H4 (e03.trans e4) iv
  | is j q =>
    have it : ∀ {H1}, Ex H H1 → EvD (tOp (rIxT K) (tVar 0) (tC (.int 0))) (L2.start ["test", "counters", "last"] [v1, v2, v3]) H1 (.str "is") := fun e => ed_ixT (w1 e) (ed_i 0) rfl
    refine q_when (b := false) (et_is (et_D (ed_eqS (it e0) (ed_s "answer"))) (by decide +kernel)) (fun z => by cases z) ?_
    intro _ H1 e1
    refine q_when (b := false) (et_is (et_D (ed_eqS (it e1) (ed_s "true"))) (by decide +kernel)) (fun z => by cases z) ?_
    intro _ H2 e2
    have e02 := e1.trans e2
    refine q_when (b := false) (et_is (et_D (ed_eqS (it e02) (ed_s "not"))) (by decide +kernel)) (fun z => by cases z) ?_
    intro _ H3 e3
    have e03 := e02.trans e3
    exact s_retD (ed_if (b := false) (et_is (et_D (ed_eqS (it e03) (ed_s "less"))) (by decide +kernel)) (fun z => by cases z) (fun _ => ed_eqI (ed_ixT (w2 e03) (ed_ixT (w1 e03) (ed_i 1) rfl) (atI_nat (at_c ok))) (ed_ixT (w1 e03) (ed_i 2) rfl))) fun v H4 e4 iv => kk v H4 (e03.trans e4) iv
theorem cal_holds (S : Src K mg "holds" st_holds ["test", "counters", "last"]) (T : Txt K mg) : ∀ n, Cal P w K mg base CX0 (n + 1) "holds" ["test", "counters", "last"] (sp_holds n)
  | 0 => holds_step S T (k := 0) (sp := fun _ _ _ _ => False) (cal_false S) (fun m h => by omega)
  | n + 1 => holds_step S T (k := n + 1) (cal_holds S T n) (fun m h => by
      have : n = m := by omega
      rw [this])
end
end K97
set_option Elab.async false
set_option linter.all false
set_option maxRecDepth 100000
set_option maxHeartbeats 4000000
namespace K97
open PySem PySem.Spec PyProof.Rows L2 Evl Pd
/-- an operation of a teller: a word and numbers, or a set of a counter's worth -/
inductive OpT
  | plain (w : Str) (ns : List Int) | setc (r k : Int) (i : Nat)
def eOpT : OpT → PyData
  | .plain w ns => .tuple (.str w :: ns.map .int)
  | .setc r k i => .tuple [.str "set", .int r, .int k, .tuple [.str "counter", .int (i : Nat)]]
def fillO (cs : List Int) : OpT → OpT
  | .plain w ns => .plain w ns
  | .setc r k i => .plain "set" [r, k, cs.getD i 0]
def opShapes : List (Str × Nat) := [("put", 2), ("get", 2), ("set", 3), ("load", 3), ("store", 3), ("root", 2), ("take", 2), ("drop", 1), ("size", 1), ("same", 2), ("copy", 2)]
def OpTOk (c : Nat) : OpT → Prop
  | .plain w ns => (w, ns.length) ∈ opShapes
  | .setc _ _ i => i < c
theorem shape_all : ∀ p ∈ opShapes, p.2 ≤ 3 ∧ (p.1 = "set" → p.2 = 3) ∧ PyData.strOk p.1 = true := by decide +kernel
theorem plain_len {c : Nat} {w : Str} {ns : List Int} (h : OpTOk c (.plain w ns)) : ns.length ≤ 3 := (shape_all (w, ns.length) h).1
theorem plain_set {c : Nat} {w : Str} {ns : List Int} (h : OpTOk c (.plain w ns)) : w = "set" → ns.length = 3 := (shape_all (w, ns.length) h).2.1
theorem plain_ok {c : Nat} {w : Str} {ns : List Int} (h : OpTOk c (.plain w ns)) : PyData.strOk w = true := (shape_all (w, ns.length) h).2.2
inductive Stm
  | do_ (o : OpT) | add (i : Nat) (n : Int) | keep (i : Nat) | if_ (t : Tst) (a b : List Stm) | while_ (t : Tst) (a : List Stm) | stop
mutual
def eStm : Stm → PyData
  | .do_ o => .tuple [.str "do", eOpT o]
  | .add i n => .tuple [.str "add", .int (i : Nat), .int n]
  | .keep i => .tuple [.str "keep", .int (i : Nat)]
  | .if_ t a b => .tuple [.str "if", eTst t, .tuple (eStms a), .tuple (eStms b)]
  | .while_ t a => .tuple [.str "while", eTst t, .tuple (eStms a)]
  | .stop => .tuple [.str "stop"]
def eStms : List Stm → List PyData
  | [] => []
  | s :: l => eStm s :: eStms l
end
theorem eStms_map : ∀ l : List Stm, eStms l = l.map eStm
  | [] => rfl
  | s :: l => by rw [eStms, eStms_map l]; rfl
abbrev eBlk (b : List Stm) : PyData := .tuple (b.map eStm)
abbrev Frm : Type := List Stm × Nat
abbrev eFrm (f : Frm) : PyData := .tuple [eBlk f.1, .int (f.2 : Nat)]
structure Sta where
  cs : List Int
  last : Option Ans
  fs : List Frm
def eSta (s : Sta) : PyData := .tuple [eI s.cs, eLast s.last, .tuple (s.fs.map eFrm)]
def sp_filled : Sp := SpQ fun ds d => ∃ (o : OpT) (cs : List Int), ds = [eOpT o, eI cs] ∧ OpTOk cs.length o ∧ d = eOpT (fillO cs o)
def sp_first_state : Sp := SpQ fun ds d => ∃ (c : Nat) (b : List Stm), ds = [.tuple [.int (c : Nat), eBlk b]] ∧ c ≤ 1000 ∧ d = eSta ⟨List.replicate c 0, none, [(b, 0)]⟩
def sp_told : Sp := SpQ fun ds d => ∃ (s : Sta) (a : Ans), ds = [eSta s, eAns a] ∧ d = eSta ⟨s.cs, some a, s.fs⟩
section
variable {P : Program} {w : World} {K : PySem.W.Frag} {mg : Str → Option Value} {base : Heap}
theorem cal_told (S : Src K mg "told" st_told ["state", "answer"]) (T : Txt K mg) : Cal P w K mg base CX0 1 "told" ["state", "answer"] sp_told := by
  have sc := sc_told
  refine S.cal (k := 0) sc (SpQ.len fun ds d h => by obtain ⟨_, _, rfl, _⟩ := h; rfl) (fun f cdv A outer s H vs Q E hr h => ⟨_, (pss_one (ps_ret (pe_tup (pa_cons (pe_ix (k_ix_tup (K := K) rfl) (pv 0) pe_int (fun _ _ => rfl)) (pa_cons (pv 1) (pa_cons (pe_ix (k_ix_tup (K := K) rfl) (pv 0) pe_int (fun _ _ => rfl)) pa_nil)))))), ?_⟩)
  obtain ⟨ds, d, i, ⟨s, a, rfl, rfl⟩, kk⟩ := h
  obtain ⟨v, u, rfl, iv, iu⟩ := i.two
  exact s_retD (ed_tup (ea1 (ed_ixT (ed_var rfl iv) (ed_i 0) rfl) (ea1 (ed_var rfl iu) (ea1 (ed_ixT (ed_var rfl iv) (ed_i 2) rfl) ea0))) (by show 3 ≤ 100000; omega)) fun v1 H1 e1 iv1 => kk v1 H1 e1 iv1
theorem cal_filled (S : Src K mg "filled" st_filled ["operation", "counters"]) (T : Txt K mg) (C_is_index : Cal P w K mg base CX0 3 "is_index" ["value", "count"] sp_is_index) : Cal P w K mg base CX0 4 "filled" ["operation", "counters"] sp_filled := by
  have sc := sc_filled
  refine S.cal (k := 3) sc (SpQ.len fun ds d h => by obtain ⟨_, _, rfl, _⟩ := h; rfl) (fun f cdv A outer s H vs Q E hr h => ⟨_, (pss_cons (ps_if (PW.pt (pw_or (pt_not (pt_val (pe_callB (k_isi (K := K) rfl) (by rfl) T.n_isinstance (by decide +kernel) (pa_cons (pv 0) (pa_cons (pe_bltn (v := .ty "tuple") (by rfl) T.n_tuple (by decide +kernel) rfl) pa_nil))))) (pw_or (pt_cmpR op_ne (pe_callB (k_len_seq (K := K) rfl) (by rfl) T.n_len PySem.boot_len (pa_cons (pv 0) pa_nil)) pe_int (nomark _)) (pw_or1 (pt_cmpR op_ne (pe_ix (k_ix_tup (K := K) rfl) (pv 0) pe_int (fun _ _ => rfl)) pe_str (nomark _)))))) (pss_one (ps_ret (pv 0))) pss_nil)
  (pss_cons (ps_set (i := 2) sc.nd rfl (by first | exact Or.inl rfl | exact Or.inr rfl) (pe_ix (k_ix_tup (K := K) rfl) (pv 0) pe_int (fun _ _ => rfl)))
  (pss_cons (ps_if (PW.pt (pw_and (pt_val (pe_callB (k_isi (K := K) rfl) (by rfl) T.n_isinstance (by decide +kernel) (pa_cons (pv 2) (pa_cons (pe_bltn (v := .ty "tuple") (by rfl) T.n_tuple (by decide +kernel) rfl) pa_nil)))) (pw_and (pt_cmpR op_eq (pe_callB (k_len_seq (K := K) rfl) (by rfl) T.n_len PySem.boot_len (pa_cons (pv 2) pa_nil)) pe_int (nomark _)) (pw_and (pt_cmpR op_eq (pe_ix (k_ix_tup (K := K) rfl) (pv 2) pe_int (fun _ _ => rfl)) (pe_gl rfl T.c_COUNTER) (nomark _)) (pw_and1 (pt_val (pe_cal C_is_index (hr.mono (by first | decide | omega)) rfl pass0 (pa_cons (pe_ix (k_ix_tup (K := K) rfl) (pv 2) pe_int (fun _ _ => rfl)) (pa_cons (pe_callB (k_len_seq (K := K) rfl) (by rfl) T.n_len PySem.boot_len (pa_cons (pv 1) pa_nil)) pa_nil))))))))) (pss_one (ps_ret (pe_op (k_catA (K := K) rfl) (pe_slice (k_sl_tupA (K := K) rfl) (pv 0) po_none (po_some pe_int)) (pe_tup (pa_cons (pe_ix (k_ix_tup (K := K) rfl) (pv 1) (pe_ix (k_ix_tup (K := K) rfl) (pv 2) pe_int (fun _ _ => rfl)) (fun _ _ => rfl)) pa_nil))))) pss_nil)
  (pss_one (ps_ret (pv 0)))))), ?_⟩)
  obtain ⟨ds, d, i, ⟨o, cs, rfl, ok, rfl⟩, kk⟩ := h
  obtain ⟨v, u, rfl, iv, iu⟩ := i.two
  show tSeq _ _ _ [some v, some u, none] H
  cases o with
  | plain w ns =>
    have w1 : ∀ {n : Option V} {H1}, Ex H H1 → EvD (tVar 0) [some v, some u, n] H1 (.tuple (.str w :: ns.map .int)) := fun e => ed_var rfl (iv.mono e)
    have hl : ns.length ≤ 3 := plain_len ok
    refine q_when (b := decide (ns.length ≠ 3) || decide (w ≠ "set")) (et_is (et_or (et_not (et_DB (ed_isi (w1 (Ex.refl H)) kt_tuple_tuple))) (fun _ => et_or (et_D (ed_neI (ed_lenT (w1 (Ex.refl H))) (ed_i 4))) (fun _ => et_D (ed_neS (ed_ixT (w1 (Ex.refl H)) (ed_i 0) (atI_nat (j := 0) rfl)) (ed_s "set"))))) ?_) ?_ ?_
    · have : decide (((PyData.str w :: ns.map PyData.int).length : Int) = 4) = decide (ns.length = 3) := decide_eq_decide.mpr (by rw [List.length_cons, List.length_map]; omega)
      rw [this]
      by_cases h1 : ns.length = 3 <;> by_cases h2 : w = ("set" : Str) <;> simp [h1, h2]
    · intro _ H1 e1
      exact s_retD (w1 e1) fun v1 H2 e2 iv1 => kk v1 H2 (e1.trans e2) iv1
    · intro hb H1 e1
      have h3 : ns.length = 3 := by
        simp only [Bool.or_eq_false_iff, decide_eq_false_iff_not, ne_eq, Decidable.not_not] at hb
        exact hb.1
      obtain ⟨a, b, c, rfl⟩ : ∃ a b c, ns = [a, b, c] := by
        match ns, h3 with
        | [a, b, c], _ => exact ⟨a, b, c, rfl⟩
      refine q_asgD (d := .int c) (ed_ixT (w1 e1) (ed_i 3) rfl) ?_
      intro lv H2 e2 il
      have el := il.i
      subst el
      show tSeq (tIfS _ _ _) _ _ [some v, some u, some (.int c)] H2
      refine q_when (b := false) (et_and (a := false) (b := false) (et_DB (ed_isi (ed_var rfl (.int c)) kt_int_tuple)) (fun z => by cases z)) (fun z => by cases z) ?_
      intro _ H3 e3
      exact s_retD (w1 ((e1.trans e2).trans e3)) fun v1 H4 e4 iv1 => kk v1 H4 (((e1.trans e2).trans e3).trans e4) iv1
  | setc r k j =>
    have w1 : ∀ {n : Option V} {H1}, Ex H H1 → EvD (tVar 0) [some v, some u, n] H1 (eOpT (.setc r k j)) := fun e => ed_var rfl (iv.mono e)
    have w2 : ∀ {n : Option V} {H1}, Ex H H1 → EvD (tVar 1) [some v, some u, n] H1 (eI cs) := fun e => ed_var rfl (iu.mono e)
    have hj : j < cs.length := ok
    refine q_when (b := false) (et_is (et_or (et_not (et_DB (ed_isi (w1 (Ex.refl H)) kt_tuple_tuple))) (fun _ => et_or (et_D (ed_neI (ed_lenT (w1 (Ex.refl H))) (ed_i 4))) (fun _ => et_D (ed_neS (ed_ixT (w1 (Ex.refl H)) (ed_i 0) rfl) (ed_s "set"))))) (by simp)) (fun z => by cases z) ?_
    intro _ H1 e1
    refine q_asgD (d := .tuple [.str "counter", .int (j : Nat)]) (ed_ixT (w1 e1) (ed_i 3) rfl) ?_
    intro lv H2 e2 il
    have e02 := e1.trans e2
    have w3 : ∀ {H1}, Ex H2 H1 → EvD (tVar 2) [some v, some u, some lv] H1 (.tuple [.str "counter", .int (j : Nat)]) := fun e => ed_var rfl (il.mono e)
    show tSeq (tIfS _ _ _) _ _ [some v, some u, some lv] H2
    refine q_when (b := true) (et_is (et_and (et_DB (ed_isi (w3 (Ex.refl H2)) kt_tuple_tuple)) (fun _ => et_and (et_D (ed_eqI (ed_lenT (w3 (Ex.refl H2))) (ed_i 2))) (fun _ => et_and (et_D (ed_eqS (ed_ixT (w3 (Ex.refl H2)) (ed_i 0) rfl) (ed_s "counter"))) (fun _ => et_DB (ed_callQ (ea1 (ed_ixT (w3 (Ex.refl H2)) (ed_i 1) rfl) (ea1 (ed_lenT (w2 e02)) ea0)) ⟨.int (j : Nat), ((cs.map PyData.int).length : Int), rfl, rfl⟩))))) ?_) ?_ (fun z => by cases z)
    · have h1 : isIndex ((cs.map PyData.int).length : Int) (.int (j : Nat)) = true := by
        show (decide ((0 : Int) ≤ (j : Int)) && decide ((j : Int) < ((cs.map PyData.int).length : Int))) = true
        rw [List.length_map, Bool.and_eq_true]
        exact ⟨decide_eq_true (Int.natCast_nonneg j), decide_eq_true (by omega)⟩
      rw [h1]
      simp
    · intro _ H3 e3
      have e03 := e02.trans e3
      refine s_retD (EvD.is (ed_catA (ds := [.str "set", .int r, .int k]) (EvD.is (ed_slA (w1 e03) eo_none (eo_i (ed_i 3))) rfl) (ed_tup (ea1 (ed_ixT (w2 e03) (ed_ixT (w3 e3) (ed_i 1) rfl) (atI_nat (at_c hj))) ea0) (by show 1 ≤ 100000; omega)) (by show 3 + 1 ≤ 100000; omega)) rfl) fun v1 H4 e4 iv1 => kk v1 H4 (e03.trans e4) iv1
end
end K97
set_option Elab.async false
set_option linter.all false
set_option maxRecDepth 100000
set_option maxHeartbeats 4000000
namespace K97
open PySem PySem.Spec PyProof.Rows L2 Evl Pd
section
variable {P : Program} {w : World} {K : PySem.W.Frag} {mg : Str → Option Value} {base : Heap}
theorem cal_first_state (S : Src K mg "first_state" st_first_state ["teller"]) (T : Txt K mg) : Cal P w K mg base CX0 1 "first_state" ["teller"] sp_first_state := by
  have sc := sc_first_state
  refine S.cal (k := 0) sc (SpQ.len fun ds d h => by obtain ⟨_, _, rfl, _⟩ := h; rfl) (fun f cdv A outer s H vs Q E hr h => ⟨_, (pss_one (ps_ret (pe_tup (pa_cons (pe_op (k_repA (K := K) rfl) (pe_tup (pa_cons pe_int pa_nil)) (pe_ix (k_ix_tup (K := K) rfl) (pv 0) pe_int (fun _ _ => rfl))) (pa_cons pe_non (pa_cons (pe_tup (pa_cons (pe_tup (pa_cons (pe_ix (k_ix_tup (K := K) rfl) (pv 0) pe_int (fun _ _ => rfl)) (pa_cons pe_int pa_nil))) pa_nil)) pa_nil)))))), ?_⟩)
  obtain ⟨ds, d, i, ⟨c, b, rfl, hc, rfl⟩, kk⟩ := h
  obtain ⟨v, rfl, iv⟩ := i.one
  have w1 : ∀ {H1}, Ex H H1 → EvD (tVar 0) [some v] H1 (.tuple [.int (c : Nat), eBlk b]) := fun e => ed_var rfl (iv.mono e)
  refine s_retD (EvD.is (ed_tup (ea1 (ed_repT (ed_tup (ea1 (ed_i 0) ea0) (by show 1 ≤ 100000; omega)) (ed_ixT (w1 (Ex.refl H)) (ed_i 0) rfl) hc) (ea1 ed_n (ea1 (ed_tup (ea1 (ed_tup (ea1 (ed_ixT (w1 (Ex.refl H)) (ed_i 1) rfl) (ea1 (ed_i 0) ea0)) (by show 2 ≤ 100000; omega)) ea0) (by show 1 ≤ 100000; omega)) ea0))) (by show 3 ≤ 100000; omega)) ?_) fun v1 H1 e1 iv1 => kk v1 H1 e1 iv1
  show _ = eSta ⟨List.replicate c 0, none, [(b, 0)]⟩
  simp [eSta, eI, eLast, eFrm]
end
end K97
set_option Elab.async false
set_option linter.all false
set_option maxRecDepth 100000
set_option maxHeartbeats 4000000
namespace Pd
open PySem PySem.Spec PyProof.Rows L2 Evl
section
variable {K : PySem.W.Frag} {σ : L2.St} {H : Hp} {te : TE} {tz : TS} {D : Ends}
theorem q_un3 {i j l : Nat} {d1 d2 d3 : PyData} (h : EvD te σ H (.tuple [d1, d2, d3])) (k : ∀ a b c H1, Ex H H1 → Im H1 a d1 → Im H1 b d2 → Im H1 c d3 → tz D (((σ.set i (some a)).set j (some b)).set l (some c)) H1) : tSeq (tAsg te (gTup K 3 (gCons (gName i) (gCons (gName j) (gCons (gName l) gNil))))) tz D σ H :=
  h H (Ex.refl H) _ fun v H1 e iv => by
    obtain ⟨p, xs, rfl, g1, g2⟩ := iv.t
    obtain ⟨a, b, c, rfl, ia, ib, ic⟩ := g2.three
    exact ⟨p, [a, b, c], rfl, SqT.of g1, rfl, a, [b, c], rfl, b, [c], rfl, c, [], rfl, rfl, k a b c H1 e ia ib ic⟩
theorem q_un2 {i j : Nat} {d1 d2 : PyData} (h : EvD te σ H (.tuple [d1, d2])) (k : ∀ a b H1, Ex H H1 → Im H1 a d1 → Im H1 b d2 → tz D ((σ.set i (some a)).set j (some b)) H1) : tSeq (tAsg te (gTup K 2 (gCons (gName i) (gCons (gName j) gNil)))) tz D σ H :=
  h H (Ex.refl H) _ fun v H1 e iv => g_pair iv fun a b ia ib => k a b H1 e ia ib
theorem ed_m1 : EvD (tUn (rU fun i => V.int (-i)) (tC (.int 1))) σ H (.int (-1)) := fun H1 e Q q => ⟨1, rfl, q _ H1 (Ex.refl H1) (.int (-1))⟩
end
end Pd
namespace K97
open PySem PySem.Spec PyProof.Rows L2 Evl Pd
mutual
def StmOk (c : Nat) : Stm → Prop
  | .do_ o => OpTOk c o
  | .add i _ => i < c
  | .keep i => i < c
  | .if_ t a b => (t.deep ≤ 2 ∧ TstOk c t) ∧ BlkOk c a ∧ BlkOk c b
  | .while_ t a => (t.deep ≤ 2 ∧ TstOk c t) ∧ BlkOk c a
  | .stop => True
def BlkOk (c : Nat) : List Stm → Prop
  | [] => True
  | s :: l => StmOk c s ∧ BlkOk c l
end
theorem BlkOk.at {c : Nat} : ∀ {b : List Stm} {i : Nat} {s : Stm}, BlkOk c b → b[i]? = some s → StmOk c s
  | [], _, _, _, e => by simp at e
  | x :: l, 0, s, h, e => by simp at e; subst e; rw [BlkOk] at h; exact h.1
  | x :: l, i + 1, s, h, e => by rw [BlkOk] at h; exact BlkOk.at (i := i) h.2 (by simpa using e)
def stepF (cs : List Int) (a : Option Ans) (pre : List Frm) (b : List Stm) (i : Nat) : Sta :=
  if i = b.length then ⟨cs, a, pre⟩ else
  match b[i]? with
  | some (.add j n) => ⟨cs.set j (clip (cs.getD j 0 + n)), a, pre ++ [(b, i + 1)]⟩
  | some (.keep j) => ⟨cs.set j (clip (keptW a)), a, pre ++ [(b, i + 1)]⟩
  | some (.if_ t x y) => ⟨cs, a, pre ++ [(b, i + 1)] ++ [(if hold cs a t then x else y, 0)]⟩
  | some (.while_ t x) => if hold cs a t then ⟨cs, a, pre ++ [(b, i)] ++ [(x, 0)]⟩ else ⟨cs, a, pre ++ [(b, i + 1)]⟩
  | _ => ⟨cs, a, []⟩
def sp_inner_step : Sp := SpQ fun ds d => ∃ (cs : List Int) (a : Option Ans) (pre : List Frm) (b : List Stm) (i : Nat), ds = [eSta ⟨cs, a, pre ++ [(b, i)]⟩] ∧ cs.length ≤ 1000 ∧ LastOk a ∧ pre.length ≤ 90000 ∧ BlkOk cs.length b ∧ i ≤ b.length ∧ d = eSta (stepF cs a pre b i)
def stWord : Stm → Str
  | .do_ _ => "do" | .add _ _ => "add" | .keep _ => "keep" | .if_ _ _ _ => "if" | .while_ _ _ => "while" | .stop => "stop"
theorem eStm_word (s : Stm) : ∃ l, eStm s = .tuple (.str (stWord s) :: l) := by
  cases s <;> exact ⟨_, by rw [eStm]; rfl⟩
section
variable {P : Program} {w : World} {K : PySem.W.Frag} {mg : Str → Option Value} {base : Heap}
theorem cal_inner_step (S : Src K mg "inner_step" st_inner_step ["state"]) (T : Txt K mg) (C_holds : Cal P w K mg base CX0 3 "holds" ["test", "counters", "last"] (sp_holds 2)) (C_with_counter : Cal P w K mg base CX0 1 "with_counter" ["counters", "index", "worth"] sp_with_counter) (C_kept_worth : Cal P w K mg base CX0 2 "kept_worth" ["last"] sp_kept_worth) : Cal P w K mg base CX0 4 "inner_step" ["state"] sp_inner_step := by
  have sc := sc_inner_step
  refine S.cal (k := 3) sc (SpQ.len fun ds d h => by obtain ⟨_, _, _, _, _, rfl, _⟩ := h; rfl) (fun f cdv A outer s H vs Q E hr h => ⟨_, (pss_cons (ps_asg (pv 0) (k_pg_tup (K := K) (n := 3) rfl rfl (pgs_cons (pg_name (i := 1) sc.nd rfl (by first | exact Or.inl rfl | exact Or.inr rfl)) (pgs_cons (pg_name (i := 2) sc.nd rfl (by first | exact Or.inl rfl | exact Or.inr rfl)) (pgs_cons (pg_name (i := 3) sc.nd rfl (by first | exact Or.inl rfl | exact Or.inr rfl)) pgs_nil)))))
  (pss_cons (ps_asg (pe_ix (k_ix_tup (K := K) rfl) (pv 3) (pe_un un_neg pe_int) (fun _ _ => rfl)) (k_pg_tup (K := K) (n := 2) rfl rfl (pgs_cons (pg_name (i := 4) sc.nd rfl (by first | exact Or.inl rfl | exact Or.inr rfl)) (pgs_cons (pg_name (i := 5) sc.nd rfl (by first | exact Or.inl rfl | exact Or.inr rfl)) pgs_nil))))
  (pss_cons (ps_if (pt_cmpR op_eq (pv 5) (pe_callB (k_len_seq (K := K) rfl) (by rfl) T.n_len PySem.boot_len (pa_cons (pv 4) pa_nil)) (nomark _)) (pss_one (ps_ret (pe_tup (pa_cons (pv 1) (pa_cons (pv 2) (pa_cons (pe_slice (k_sl_tupA (K := K) rfl) (pv 3) po_none (po_some (pe_un un_neg pe_int))) pa_nil)))))) pss_nil)
  (pss_cons (ps_set (i := 6) sc.nd rfl (by first | exact Or.inl rfl | exact Or.inr rfl) (pe_ix (k_ix_tup (K := K) rfl) (pv 4) (pv 5) (fun _ _ => rfl)))
  (pss_cons (ps_set (i := 7) sc.nd rfl (by first | exact Or.inl rfl | exact Or.inr rfl) (pe_op (k_catA (K := K) rfl) (pe_slice (k_sl_tupA (K := K) rfl) (pv 3) po_none (po_some (pe_un un_neg pe_int))) (pe_tup (pa_cons (pe_tup (pa_cons (pv 4) (pa_cons (pe_op op_add (pv 5) pe_int) pa_nil))) pa_nil))))
  (pss_cons (ps_if (pt_cmpR op_eq (pe_ix (k_ix_tup (K := K) rfl) (pv 6) pe_int (fun _ _ => rfl)) pe_str (nomark _)) (pss_one (ps_ret (pe_tup (pa_cons (pe_cal C_with_counter (hr.mono (by first | decide | omega)) rfl pass0 (pa_cons (pv 1) (pa_cons (pe_ix (k_ix_tup (K := K) rfl) (pv 6) pe_int (fun _ _ => rfl)) (pa_cons (pe_op op_add (pe_ix (k_ix_tup (K := K) rfl) (pv 1) (pe_ix (k_ix_tup (K := K) rfl) (pv 6) pe_int (fun _ _ => rfl)) (fun _ _ => rfl)) (pe_ix (k_ix_tup (K := K) rfl) (pv 6) pe_int (fun _ _ => rfl))) pa_nil)))) (pa_cons (pv 2) (pa_cons (pv 7) pa_nil)))))) pss_nil)
  (pss_cons (ps_if (pt_cmpR op_eq (pe_ix (k_ix_tup (K := K) rfl) (pv 6) pe_int (fun _ _ => rfl)) pe_str (nomark _)) (pss_one (ps_ret (pe_tup (pa_cons (pe_cal C_with_counter (hr.mono (by first | decide | omega)) rfl pass0 (pa_cons (pv 1) (pa_cons (pe_ix (k_ix_tup (K := K) rfl) (pv 6) pe_int (fun _ _ => rfl)) (pa_cons (pe_cal C_kept_worth (hr.mono (by first | decide | omega)) rfl pass0 (pa_cons (pv 2) pa_nil)) pa_nil)))) (pa_cons (pv 2) (pa_cons (pv 7) pa_nil)))))) pss_nil)
  (pss_cons (ps_if (pt_cmpR op_eq (pe_ix (k_ix_tup (K := K) rfl) (pv 6) pe_int (fun _ _ => rfl)) pe_str (nomark _)) (pss_one (ps_ret (pe_tup (pa_cons (pv 1) (pa_cons (pv 2) (pa_cons (pe_op (k_catA (K := K) rfl) (pv 7) (pe_tup (pa_cons (pe_tup (pa_cons (pe_ifExp (pt_val (pe_cal C_holds (hr.mono (by first | decide | omega)) rfl pass0 (pa_cons (pe_ix (k_ix_tup (K := K) rfl) (pv 6) pe_int (fun _ _ => rfl)) (pa_cons (pv 1) (pa_cons (pv 2) pa_nil))))) (pe_ix (k_ix_tup (K := K) rfl) (pv 6) pe_int (fun _ _ => rfl)) (pe_ix (k_ix_tup (K := K) rfl) (pv 6) pe_int (fun _ _ => rfl))) (pa_cons pe_int pa_nil))) pa_nil))) pa_nil)))))) pss_nil)
  (pss_cons (ps_if (pt_cmpR op_eq (pe_ix (k_ix_tup (K := K) rfl) (pv 6) pe_int (fun _ _ => rfl)) pe_str (nomark _)) (pss_cons (ps_if (pt_val (pe_cal C_holds (hr.mono (by first | decide | omega)) rfl pass0 (pa_cons (pe_ix (k_ix_tup (K := K) rfl) (pv 6) pe_int (fun _ _ => rfl)) (pa_cons (pv 1) (pa_cons (pv 2) pa_nil))))) (pss_one (ps_ret (pe_tup (pa_cons (pv 1) (pa_cons (pv 2) (pa_cons (pe_op (k_catA (K := K) rfl) (pv 3) (pe_tup (pa_cons (pe_tup (pa_cons (pe_ix (k_ix_tup (K := K) rfl) (pv 6) pe_int (fun _ _ => rfl)) (pa_cons pe_int pa_nil))) pa_nil))) pa_nil)))))) pss_nil)
  (pss_one (ps_ret (pe_tup (pa_cons (pv 1) (pa_cons (pv 2) (pa_cons (pv 7) pa_nil))))))) pss_nil)
  (pss_one (ps_ret (pe_tup (pa_cons (pv 1) (pa_cons (pv 2) (pa_cons (pe_tup pa_nil) pa_nil))))))))))))))), ?_⟩)
  obtain ⟨ds, d, ims, ⟨cs, a, pre, b, i, rfl, hc, lo, hp, ok, hi, rfl⟩, kk⟩ := h
  obtain ⟨v, rfl, iv⟩ := ims.one
  refine q_un3 (ed_var rfl iv) fun v1 v2 v3 H1 e1 i1 i2 i3 => ?_
  have hfs : (pre ++ [(b, i)]).map eFrm = pre.map eFrm ++ [eFrm (b, i)] := by rw [List.map_append]; rfl
  refine q_un2 (ed_ixT (ed_var rfl i3) ed_m1 (by rw [hfs]; exact atI_last _ _)) fun v4 v5 H2 e2 i4 i5 => ?_
  have e5 := i5.i
  subst e5
  show tSeq _ _ _ [some v, some v1, some v2, some v3, some v4, some (.int (i : Nat)), none, none] H2
  have w1 : ∀ {n6 n7 : Option V} {H3}, Ex H2 H3 → EvD (tVar 1) [some v, some v1, some v2, some v3, some v4, some (.int (i : Nat)), n6, n7] H3 (eI cs) := fun e => ed_var rfl (i1.mono (e2.trans e))
  have w2 : ∀ {n6 n7 : Option V} {H3}, Ex H2 H3 → EvD (tVar 2) [some v, some v1, some v2, some v3, some v4, some (.int (i : Nat)), n6, n7] H3 (eLast a) := fun e => ed_var rfl (i2.mono (e2.trans e))
  have w3 : ∀ {n6 n7 : Option V} {H3}, Ex H2 H3 → EvD (tVar 3) [some v, some v1, some v2, some v3, some v4, some (.int (i : Nat)), n6, n7] H3 (.tuple (pre.map eFrm ++ [eFrm (b, i)])) := fun e => ed_var rfl (hfs ▸ i3.mono (e2.trans e))
  have w4 : ∀ {n6 n7 : Option V} {H3}, Ex H2 H3 → EvD (tVar 4) [some v, some v1, some v2, some v3, some v4, some (.int (i : Nat)), n6, n7] H3 (eBlk b) := fun e => ed_var rfl (i4.mono e)
  have w5 : ∀ {n6 n7 : Option V} {H3}, EvD (tVar 5) [some v, some v1, some v2, some v3, some v4, some (.int (i : Nat)), n6, n7] H3 (.int (i : Nat)) := ed_var rfl (.int (i : Nat))
  have wp : ∀ {n6 n7 : Option V} {H3}, Ex H2 H3 → EvD (tSl (rSlA K) (tVar 3) tNoPart (tPart (tUn (rU fun i => V.int (-i)) (tC (V.int 1))))) [some v, some v1, some v2, some v3, some v4, some (.int (i : Nat)), n6, n7] H3 (.tuple (pre.map eFrm)) := fun e => EvD.is (ed_slA (w3 e) eo_none (eo_i ed_m1)) (by rw [cutD_init, List.dropLast_concat])
  have e12 := e1.trans e2
  refine q_when (b := decide (i = b.length)) (et_is (et_D (ed_eqI w5 (ed_lenT (w4 (Ex.refl H2))))) (by rw [List.length_map]; exact decide_eq_decide.mpr (by omega))) ?_ ?_
  · intro hb H3 e3
    have hib := of_decide_eq_true hb
    refine s_retD (d := eSta (stepF cs a pre b i)) (EvD.is (ed_tup (ea1 (w1 e3) (ea1 (w2 e3) (ea1 (wp e3) ea0))) (by show 3 ≤ 100000; omega)) ?_) fun x H4 e4 ix => kk x H4 ((e12.trans e3).trans e4) ix
    unfold stepF
    rw [if_pos hib]
    rfl
  · intro hb H3 e3
    have hib : i ≠ b.length := of_decide_eq_false hb
    have hlt : i < b.length := by omega
    obtain ⟨st, hst⟩ : ∃ st, b[i]? = some st := ⟨_, List.getElem?_eq_getElem hlt⟩
    have sok : StmOk cs.length st := ok.at hst
    have eF : stepF cs a pre b i = (match some st with
      | some (.add j n) => ⟨cs.set j (clip (cs.getD j 0 + n)), a, pre ++ [(b, i + 1)]⟩
      | some (.keep j) => ⟨cs.set j (clip (keptW a)), a, pre ++ [(b, i + 1)]⟩
      | some (.if_ t x y) => ⟨cs, a, pre ++ [(b, i + 1)] ++ [(if hold cs a t then x else y, 0)]⟩
      | some (.while_ t x) => if hold cs a t then ⟨cs, a, pre ++ [(b, i)] ++ [(x, 0)]⟩ else ⟨cs, a, pre ++ [(b, i + 1)]⟩
      | _ => ⟨cs, a, []⟩) := by unfold stepF; rw [if_neg hib, hst]
    refine q_asgD (d := eStm st) (ed_ixT (w4 e3) w5 (atI_nat (by rw [List.getElem?_map, hst]; rfl))) fun v6 H4 e4 i6 => ?_
    have e34 := e3.trans e4
    refine q_asgD (d := .tuple ((pre ++ [(b, i + 1)]).map eFrm)) (EvD.is (ed_catA (wp e34) (ed_tup (ea1 (ed_tup (ea1 (w4 e34) (ea1 (ed_I0 (g := fun i j => i + j) w5 (ed_i 1)) ea0)) (by show 2 ≤ 100000; omega)) ea0) (by show 1 ≤ 100000; omega)) (by rw [List.length_map]; show _ + 1 ≤ _; omega)) (by rw [List.map_append]; rfl)) fun v7 H5 e5 i7 => ?_
    have e35 := e34.trans e5
    show tSeq _ _ _ [some v, some v1, some v2, some v3, some v4, some (.int (i : Nat)), some v6, some v7] H5
    have w6 : ∀ {H6}, Ex H5 H6 → EvD (tVar 6) [some v, some v1, some v2, some v3, some v4, some (.int (i : Nat)), some v6, some v7] H6 (eStm st) := fun e => ed_var rfl (i6.mono (e5.trans e))
    have w7 : ∀ {H6}, Ex H5 H6 → EvD (tVar 7) [some v, some v1, some v2, some v3, some v4, some (.int (i : Nat)), some v6, some v7] H6 (.tuple ((pre ++ [(b, i + 1)]).map eFrm)) := fun e => ed_var rfl (i7.mono e)
    have w60 : ∀ {H6}, Ex H5 H6 → EvD (tOp (rIxT K) (tVar 6) (tC (.int 0))) [some v, some v1, some v2, some v3, some v4, some (.int (i : Nat)), some v6, some v7] H6 (.str (stWord st)) := fun e => by
      obtain ⟨l, hl⟩ := eStm_word st
      exact ed_ixT (hl ▸ w6 e) (ed_i 0) (atI_nat (j := 0) rfl)
    have fin : ∀ {s' : Sta} {te : TE} {H6}, Ex H5 H6 → stepF cs a pre b i = s' → EvD te [some v, some v1, some v2, some v3, some v4, some (.int (i : Nat)), some v6, some v7] H6 (eSta s') → tRet te { nx := fun x H' => Q V.non H', rt := Q } [some v, some v1, some v2, some v3, some v4, some (.int (i : Nat)), some v6, some v7] H6 := fun {s'} {te} {H6} e es h => s_retD h fun x H7 e7 ix => kk x H7 (((e12.trans e35).trans e).trans e7) (es ▸ ix)
    have hset : ∀ (j : Nat) (n : Int), (cs.set j n).length = cs.length := fun j n => List.length_set
    refine q_when (b := decide (stWord st = "add")) (et_D (ed_eqS (w60 (Ex.refl H5)) (ed_s "add"))) ?_ ?_
    · intro hb1 H6 e6
      cases st with
      | add j n =>
        have w6' : EvD (tVar 6) [some v, some v1, some v2, some v3, some v4, some (.int (i : Nat)), some v6, some v7] H6 (.tuple [.str "add", .int (j : Nat), .int n]) := w6 e6
        exact fin e6 eF (ed_tup (ea1 (ed_callQ (ea1 (w1 (e35.trans e6)) (ea1 (ed_ixT w6' (ed_i 1) rfl) (ea1 (ed_I0 (g := fun i j => i + j) (ed_ixT (w1 (e35.trans e6)) (ed_ixT w6' (ed_i 1) rfl) (atI_nat (at_c sok))) (ed_ixT w6' (ed_i 2) rfl)) ea0))) ⟨cs, j, cs.getD j 0 + n, rfl, sok, hc, rfl⟩) (ea1 (w2 (e35.trans e6)) (ea1 (w7 e6) ea0))) (by show 3 ≤ 100000; omega))
      | _ => exact absurd (of_decide_eq_true hb1) (by simp only [stWord]; decide +kernel)
    intro hb1 H6 e6
    refine q_when (b := decide (stWord st = "keep")) (et_D (ed_eqS (w60 e6) (ed_s "keep"))) ?_ ?_
    · intro hb2 H7 e7
      have e57 := e6.trans e7
      cases st with
      | keep j =>
        have w6' : EvD (tVar 6) [some v, some v1, some v2, some v3, some v4, some (.int (i : Nat)), some v6, some v7] H7 (.tuple [.str "keep", .int (j : Nat)]) := w6 e57
        exact fin e57 eF (ed_tup (ea1 (ed_callQ (ea1 (w1 (e35.trans e57)) (ea1 (ed_ixT w6' (ed_i 1) rfl) (ea1 (ed_callQ (ea1 (w2 (e35.trans e57)) ea0) ⟨a, rfl, rfl⟩) ea0))) ⟨cs, j, keptW a, rfl, sok, hc, rfl⟩) (ea1 (w2 (e35.trans e57)) (ea1 (w7 e57) ea0))) (by show 3 ≤ 100000; omega))
      | _ => exact absurd (of_decide_eq_true hb2) (by simp only [stWord]; decide +kernel)
    intro hb2 H7 e7
    have e57 := e6.trans e7
    refine q_when (b := decide (stWord st = "if")) (et_D (ed_eqS (w60 e57) (ed_s "if"))) ?_ ?_
    · intro hb3 H8 e8
      have e58 := e57.trans e8
      cases st with
      | if_ t x y =>
        rw [StmOk] at sok
        have w6' : EvD (tVar 6) [some v, some v1, some v2, some v3, some v4, some (.int (i : Nat)), some v6, some v7] H8 (.tuple [.str "if", eTst t, eBlk x, eBlk y]) := by
          have := w6 e58
          rw [eStm, eStms_map, eStms_map] at this
          exact this
        refine fin e58 eF (EvD.is (ed_tup (ea1 (w1 (e35.trans e58)) (ea1 (w2 (e35.trans e58)) (ea1 (ed_catA (w7 e58) (ed_tup (ea1 (ed_tup (ea1 (ed_if (d := eBlk (if hold cs a t then x else y)) (b := hold cs a t) (et_DB (ed_callQ (ea1 (ed_ixT w6' (ed_i 1) rfl) (ea1 (w1 (e35.trans e58)) (ea1 (w2 (e35.trans e58)) ea0))) ⟨t, cs, a, rfl, sok.1.1, sok.1.2, lo, rfl⟩)) (fun h => ?_) (fun h => ?_)) (ea1 (ed_i 0) ea0)) (by show 2 ≤ 100000; omega)) ea0) (by show 1 ≤ 100000; omega)) (by rw [List.length_map, List.length_append]; show _ + 1 + 1 ≤ _; omega)) ea0))) (by show 3 ≤ 100000; omega)) ?_)
        · rw [h]; exact ed_ixT w6' (ed_i 2) rfl
        · rw [h]; exact ed_ixT w6' (ed_i 3) rfl
        · show _ = PyData.tuple [_, _, .tuple ((pre ++ [(b, i + 1)] ++ [(if hold cs a t then x else y, 0)]).map eFrm)]
          rw [List.map_append (l₁ := pre ++ [(b, i + 1)])]
          rfl
      | _ => exact absurd (of_decide_eq_true hb3) (by simp only [stWord]; decide +kernel)
    intro hb3 H8 e8
    have e58 := e57.trans e8
    refine q_when (b := decide (stWord st = "while")) (et_D (ed_eqS (w60 e58) (ed_s "while"))) ?_ ?_
    · intro hb4 H9 e9
      have e59 := e58.trans e9
      cases st with
      | while_ t x =>
        rw [StmOk] at sok
        have w6' : ∀ {H9}, Ex H5 H9 → EvD (tVar 6) [some v, some v1, some v2, some v3, some v4, some (.int (i : Nat)), some v6, some v7] H9 (.tuple [.str "while", eTst t, eBlk x]) := fun e => by
          have := w6 e
          rw [eStm, eStms_map] at this
          exact this
        refine q_when (b := hold cs a t) (et_DB (ed_callQ (ea1 (ed_ixT (w6' e59) (ed_i 1) rfl) (ea1 (w1 (e35.trans e59)) (ea1 (w2 (e35.trans e59)) ea0))) ⟨t, cs, a, rfl, sok.1.1, sok.1.2, lo, rfl⟩)) (fun h H10 e10 => ?_) (fun h H10 e10 => ?_)
        · have e510 := e59.trans e10
          refine fin e510 (eF.trans (if_pos h)) (EvD.is (ed_tup (ea1 (w1 (e35.trans e510)) (ea1 (w2 (e35.trans e510)) (ea1 (ed_catA (w3 (e35.trans e510)) (ed_tup (ea1 (ed_tup (ea1 (ed_ixT (w6' e510) (ed_i 2) rfl) (ea1 (ed_i 0) ea0)) (by show 2 ≤ 100000; omega)) ea0) (by show 1 ≤ 100000; omega)) (by rw [List.length_append, List.length_map]; show _ + 1 + 1 ≤ _; omega)) ea0))) (by show 3 ≤ 100000; omega)) ?_)
          show _ = PyData.tuple [_, _, .tuple ((pre ++ [(b, i)] ++ [(x, 0)]).map eFrm)]
          rw [List.map_append (l₁ := pre ++ [(b, i)]), hfs]
          rfl
        · have e510 := e59.trans e10
          exact fin e510 (eF.trans (if_neg (by rw [h]; decide))) (ed_tup (ea1 (w1 (e35.trans e510)) (ea1 (w2 (e35.trans e510)) (ea1 (w7 e510) ea0))) (by show 3 ≤ 100000; omega))
      | _ => exact absurd (of_decide_eq_true hb4) (by simp only [stWord]; decide +kernel)
    intro hb4 H9 e9
    have e59 := e58.trans e9
    have eN : stepF cs a pre b i = ⟨cs, a, []⟩ := by
      rw [eF]
      cases st with
      | add _ _ => exact (of_decide_eq_false hb1 rfl).elim
      | keep _ => exact (of_decide_eq_false hb2 rfl).elim
      | if_ _ _ _ => exact (of_decide_eq_false hb3 rfl).elim
      | while_ _ _ => exact (of_decide_eq_false hb4 rfl).elim
      | stop => rfl
      | do_ _ => rfl
    exact fin e59 eN (ed_tup (ea1 (w1 (e35.trans e59)) (ea1 (w2 (e35.trans e59)) (ea1 (ed_tup ea0 (by show 0 ≤ 100000; omega)) ea0))) (by show 3 ≤ 100000; omega))
end
end K97
set_option Elab.async false
set_option linter.all false
set_option maxRecDepth 100000
set_option maxHeartbeats 4000000
namespace K97
open PySem PySem.Spec PyProof.Rows L2 Evl Pd
inductive Nx
  | ended (s : Sta) | does (o : OpT) (s : Sta) | lost (s : Sta)
def eNx : Nx → PyData
  | .ended s => .tuple [.str "ended", eSta s]
  | .does o s => .tuple [.str "do", eOpT o, eSta s]
  | .lost s => .tuple [.str "lost", eSta s]
def nextF : Nat → Sta → Nx
  | 0, s => .lost ⟨s.cs, s.last, []⟩
  | n + 1, s => match s.fs.getLast? with
    | none => .ended s
    | some (b, i) => match b[i]? with
      | some (.do_ o) => .does (fillO s.cs o) ⟨s.cs, s.last, s.fs.dropLast ++ [(b, i + 1)]⟩
      | _ => nextF n (stepF s.cs s.last s.fs.dropLast b i)
/-- data that == can be asked of -/
def Fit (n : Nat) (d : PyData) : Prop := d.canLay0 = true ∧ d.depth ≤ n
theorem canLayAll_iff : ∀ ds : List PyData, PyData.canLayAll0 ds = true ↔ ∀ d ∈ ds, d.canLay0 = true
  | [] => by simp [PyData.canLayAll0]
  | x :: xs => by simp [PyData.canLayAll0, canLayAll_iff xs]
theorem depthAll_iff (n : Nat) : ∀ ds : List PyData, PyData.depthAll ds ≤ n ↔ ∀ d ∈ ds, d.depth ≤ n
  | [] => by simp [PyData.depthAll]
  | x :: xs => by simp [PyData.depthAll, Nat.max_le, depthAll_iff n xs]
theorem fit_tup {n : Nat} {ds : List PyData} : Fit (n + 1) (.tuple ds) ↔ ∀ d ∈ ds, Fit n d := by
  unfold Fit
  rw [PyData.canLay0, PyData.depth, Nat.add_le_add_iff_right, canLayAll_iff, depthAll_iff]
  exact ⟨fun h d hd => ⟨h.1 d hd, h.2 d hd⟩, fun h => ⟨fun d hd => (h d hd).1, fun d hd => (h d hd).2⟩⟩
theorem Fit.le {n m : Nat} {d : PyData} (h : Fit n d) (e : n ≤ m) : Fit m d := ⟨h.1, Nat.le_trans h.2 e⟩
theorem Fit.shaped {d : PyData} (h : Fit 64 d) : SeqAt.shaped d = true := by
  unfold SeqAt.shaped
  rw [h.1, decide_eq_true h.2]; rfl
theorem fit_int (n : Nat) (i : Int) : Fit n (.int i) := ⟨by rw [PyData.canLay0], by rw [PyData.depth]; omega⟩
abbrev FrmOk (c : Nat) (f : Frm) : Prop := BlkOk c f.1 ∧ f.2 ≤ f.1.length ∧ Fit 60 (eBlk f.1)
theorem fit_frms {c : Nat} {fs : List Frm} (h : ∀ f ∈ fs, FrmOk c f) : Fit 64 (.tuple (fs.map eFrm)) := by
  refine fit_tup.mpr fun d hd => ?_
  obtain ⟨f, hf, rfl⟩ := List.mem_map.mp hd
  refine fit_tup.mpr fun d hd => ?_
  rcases List.mem_cons.mp hd with rfl | hd
  · exact (h f hf).2.2.le (by omega)
  · cases List.mem_singleton.mp hd
    exact fit_int _ _
theorem fit_sub {b : List Stm} {i : Nat} {s : Stm} {ds : List PyData} {x : List Stm} (h : Fit 60 (eBlk b)) (hs : b[i]? = some s) (e : eStm s = .tuple ds) (hx : eBlk x ∈ ds) : Fit 60 (eBlk x) := by
  have h1 : Fit 59 (eStm s) := fit_tup.mp h _ (List.mem_map.mpr ⟨s, List.mem_of_getElem? hs, rfl⟩)
  rw [e] at h1
  exact (fit_tup.mp h1 _ hx).le (by omega)
structure StaOk (c m : Nat) (s : Sta) : Prop where
  len : s.cs.length = c
  last : LastOk s.last
  fs : ∀ f ∈ s.fs, FrmOk c f
  many : s.fs.length ≤ m
theorem StaOk.step {c m : Nat} {s : Sta} {pre : List Frm} {b : List Stm} {i : Nat} (h : StaOk c m s) (e : s.fs = pre ++ [(b, i)]) : StaOk c (m + 1) (stepF s.cs s.last pre b i) := by
  have hb := h.fs (b, i) (by rw [e]; simp)
  have hpre : ∀ f ∈ pre, FrmOk c f := fun f hf => h.fs f (by rw [e]; simp [hf])
  have hm : pre.length + 1 ≤ m := by have := h.many; rw [e] at this; simpa using this
  unfold stepF
  by_cases hi : i = b.length
  · rw [if_pos hi]
    exact ⟨h.len, h.last, hpre, by show pre.length ≤ _; omega⟩
  rw [if_neg hi]
  have hlt : i < b.length := by have := hb.2.1; simp only at this; omega
  have hon : ∀ f ∈ pre ++ [(b, i + 1)], FrmOk c f := by
    intro f hf
    rcases List.mem_append.mp hf with h1 | h1
    · exact hpre f h1
    · cases List.mem_singleton.mp h1
      exact ⟨hb.1, hlt, hb.2.2⟩
  have hon2 : ∀ f ∈ pre ++ [(b, i)], FrmOk c f := fun f hf => h.fs f (e ▸ hf)
  have add : ∀ {l : List Frm} {x : List Stm}, (∀ f ∈ l, FrmOk c f) → BlkOk c x → Fit 60 (eBlk x) → ∀ f ∈ l ++ [(x, 0)], FrmOk c f := by
    intro l x hl hx hy f hf
    rcases List.mem_append.mp hf with h1 | h1
    · exact hl f h1
    · cases List.mem_singleton.mp h1
      exact ⟨hx, Nat.zero_le _, hy⟩
  have sok : StmOk c b[i] := hb.1.at (List.getElem?_eq_getElem hlt)
  rw [List.getElem?_eq_getElem hlt]
  have l1 : (pre ++ [(b, i + 1)]).length ≤ m + 1 := by simp; omega
  have hst : b[i]? = some b[i] := List.getElem?_eq_getElem hlt
  generalize b[i] = st at sok hst
  cases st with
  | add j n => exact ⟨by show (s.cs.set _ _).length = c; rw [List.length_set]; exact h.len, h.last, hon, l1⟩
  | keep j => exact ⟨by show (s.cs.set _ _).length = c; rw [List.length_set]; exact h.len, h.last, hon, l1⟩
  | if_ t x y =>
    rw [StmOk] at sok
    have ee : eStm (.if_ t x y) = .tuple [.str "if", eTst t, eBlk x, eBlk y] := by rw [eStm, eStms_map, eStms_map]
    refine ⟨h.len, h.last, add hon ?_ ?_, by simp; omega⟩
    · cases hold s.cs s.last t
      · exact sok.2.2
      · exact sok.2.1
    · cases hold s.cs s.last t
      · exact fit_sub hb.2.2 hst ee (by simp)
      · exact fit_sub hb.2.2 hst ee (by simp)
  | while_ t x =>
    rw [StmOk] at sok
    show StaOk c (m + 1) (if hold s.cs s.last t = true then _ else _)
    cases hold s.cs s.last t
    · exact ⟨h.len, h.last, hon, l1⟩
    · exact ⟨h.len, h.last, add hon2 sok.2 (fit_sub hb.2.2 hst (by rw [eStm, eStms_map]) (List.mem_cons_of_mem _ (List.mem_cons_of_mem _ (List.mem_singleton.mpr rfl)))), by simp; omega⟩
  | stop => exact ⟨h.len, h.last, fun f hf => absurd hf List.not_mem_nil, Nat.zero_le _⟩
  | do_ o => exact ⟨h.len, h.last, fun f hf => absurd hf List.not_mem_nil, Nat.zero_le _⟩
def sp_next_of : Sp := SpQ fun ds d => ∃ (c : Nat) (s : Sta), ds = [eSta s] ∧ c ≤ 1000 ∧ StaOk c 80000 s ∧ d = eNx (nextF 1000 s)
section
variable {P : Program} {w : World} {K : PySem.W.Frag} {mg : Str → Option Value} {base : Heap}
theorem cal_next_of (S : Src K mg "next_of" st_next_of ["state"]) (T : Txt K mg) (C_filled : Cal P w K mg base CX0 4 "filled" ["operation", "counters"] sp_filled) (C_inner_step : Cal P w K mg base CX0 4 "inner_step" ["state"] sp_inner_step) : Cal P w K mg base CX0 5 "next_of" ["state"] sp_next_of := by
  have sc := sc_next_of
  refine S.cal (k := 4) sc (SpQ.len fun ds d h => by obtain ⟨_, _, rfl, _⟩ := h; rfl) (fun f cdv A outer s H vs Q E hr h => ⟨_, (pss_cons (ps_for PassesOwn.never rfl (pi_range1 (by rfl) T.n_range (pa_cons (pe_gl rfl T.c_MOST_INNER) pa_nil)) (pg_name (i := 1) sc.nd rfl (by first | exact Or.inl rfl | exact Or.inr rfl)) (pss_cons (ps_asg (pv 0) (k_pg_tup (K := K) (n := 3) rfl rfl (pgs_cons (pg_name (i := 2) sc.nd rfl (by first | exact Or.inl rfl | exact Or.inr rfl)) (pgs_cons (pg_name (i := 3) sc.nd rfl (by first | exact Or.inl rfl | exact Or.inr rfl)) (pgs_cons (pg_name (i := 4) sc.nd rfl (by first | exact Or.inl rfl | exact Or.inr rfl)) pgs_nil)))))
  (pss_cons (ps_if (pt_cmpR (k_eqD (K := K) rfl (hr.units)) (pv 4) (pe_tup pa_nil) (nomark _)) (pss_one (ps_ret (pe_tup (pa_cons pe_str (pa_cons (pv 0) pa_nil))))) pss_nil)
  (pss_cons (ps_asg (pe_ix (k_ix_tup (K := K) rfl) (pv 4) (pe_un un_neg pe_int) (fun _ _ => rfl)) (k_pg_tup (K := K) (n := 2) rfl rfl (pgs_cons (pg_name (i := 5) sc.nd rfl (by first | exact Or.inl rfl | exact Or.inr rfl)) (pgs_cons (pg_name (i := 6) sc.nd rfl (by first | exact Or.inl rfl | exact Or.inr rfl)) pgs_nil))))
  (pss_cons (ps_if (PW.pt (pw_and (pt_cmpR op_lt (pv 6) (pe_callB (k_len_seq (K := K) rfl) (by rfl) T.n_len PySem.boot_len (pa_cons (pv 5) pa_nil)) (nomark _)) (pw_and1 (pt_cmpR op_eq (pe_ix (k_ix_tup (K := K) rfl) (pe_ix (k_ix_tup (K := K) rfl) (pv 5) (pv 6) (fun _ _ => rfl)) pe_int (fun _ _ => rfl)) pe_str (nomark _))))) (pss_cons (ps_set (i := 7) sc.nd rfl (by first | exact Or.inl rfl | exact Or.inr rfl) (pe_tup (pa_cons (pv 2) (pa_cons (pv 3) (pa_cons (pe_op (k_catA (K := K) rfl) (pe_slice (k_sl_tupA (K := K) rfl) (pv 4) po_none (po_some (pe_un un_neg pe_int))) (pe_tup (pa_cons (pe_tup (pa_cons (pv 5) (pa_cons (pe_op op_add (pv 6) pe_int) pa_nil))) pa_nil))) pa_nil)))))
  (pss_one (ps_ret (pe_tup (pa_cons pe_str (pa_cons (pe_cal C_filled (hr.mono (by first | decide | omega)) rfl pass0 (pa_cons (pe_ix (k_ix_tup (K := K) rfl) (pe_ix (k_ix_tup (K := K) rfl) (pv 5) (pv 6) (fun _ _ => rfl)) pe_int (fun _ _ => rfl)) (pa_cons (pv 2) pa_nil))) (pa_cons (pv 7) pa_nil))))))) pss_nil)
  (pss_one (ps_set (i := 0) sc.nd rfl (by first | exact Or.inl rfl | exact Or.inr rfl) (pe_cal C_inner_step (hr.mono (by first | decide | omega)) rfl pass0 (pa_cons (pv 0) pa_nil)))))))))
  (pss_one (ps_ret (pe_tup (pa_cons pe_str (pa_cons (pe_tup (pa_cons (pe_ix (k_ix_tup (K := K) rfl) (pv 0) pe_int (fun _ _ => rfl)) (pa_cons (pe_ix (k_ix_tup (K := K) rfl) (pv 0) pe_int (fun _ _ => rfl)) (pa_cons (pe_tup pa_nil) pa_nil)))) pa_nil)))))), ?_⟩)
  obtain ⟨ds, d, ims, ⟨c, s0, rfl, hc, ok, rfl⟩, kk⟩ := h
  obtain ⟨v, rfl, iv⟩ := ims.one
  have e1000 : EvDs (tCons (tC (V.int 1000)) tNil) [some v, none, none, none, none, none, none, none] H [.int ((1000 : Nat) : Int)] := ea1 (ed_i 1000) ea0
  refine q_forM [] (wm_range e1000 (by omega))
    (fun k σ H' => ∃ (s : Sta) (x : V) (o1 o2 o3 o4 o5 o6 o7 : Option V), σ = [some x, o1, o2, o3, o4, o5, o6, o7] ∧ Ex H H' ∧ Im H' x (eSta s) ∧ StaOk c (80000 + k) s ∧ nextF 1000 s0 = nextF (1000 - k) s) ?_ ?_ ?_ ?_
  · intro H1 e1
    exact ⟨s0, v, none, none, none, none, none, none, none, rfl, e1, iv.mono e1, ok, rfl⟩
  · rintro k σ' H1 H2 ⟨s, x, o1, o2, o3, o4, o5, o6, o7, rfl, e1, ix, so, en⟩ e2
    exact ⟨s, x, o1, o2, o3, o4, o5, o6, o7, rfl, e1.trans e2, ix.mono e2, so, en⟩
  · rintro k d0 x0 σ' H3 H4 hk e34 ix0 ⟨s, x, o1, o2, o3, o4, o5, o6, o7, rfl, e1, ix, so, en⟩
    have hk1 : k < 1000 := by
      have := (List.getElem?_eq_some_iff.mp hk).1
      simpa using this
    obtain ⟨m, hm⟩ : ∃ m, 1000 - k = m + 1 := ⟨999 - k, by omega⟩
    rw [hm] at en
    show tSeq (tAsg (tVar 0) _) _ _ [some x, some x0, o2, o3, o4, o5, o6, o7] H4
    refine q_un3 (ed_var rfl ix) fun v1 v2 v3 H5 e5 i1 i2 i3 => ?_
    show tSeq _ _ _ [some x, some x0, some v1, some v2, some v3, o5, o6, o7] H5
    have ixx := ix.mono e5
    have shp : SeqAt.shaped (.tuple (s.fs.map eFrm)) = true := (fit_frms so.fs).shaped
    have sh0 : SeqAt.shaped (.tuple []) = true := by decide +kernel
    have many := so.many
    refine q_when (b := s.fs.isEmpty) (et_is (et_D (ed_eqD (ed_var rfl i3) (ed_tup ea0 (by show 0 ≤ 100000; omega)) shp sh0)) (by cases s.fs <;> rfl)) ?_ ?_
    · intro hb H6 e6
      have hnil : s.fs = [] := List.isEmpty_iff.mp hb
      have eN : nextF 1000 s0 = .ended s := by rw [en, nextF, hnil]; rfl
      exact s_retD (ed_tup (ea1 (ed_s "ended") (ea1 (ed_var rfl (ixx.mono e6)) ea0)) (by show 2 ≤ 100000; omega)) fun y H7 e7 iy => kk y H7 (((e1.trans e5).trans e6).trans e7) (by rw [eN]; exact iy)
    · intro hb H6 e6
      obtain ⟨pre, b, i, hfs⟩ : ∃ pre b i, s.fs = pre ++ [(b, i)] := by
        rcases List.eq_nil_or_concat s.fs with h | ⟨pre, ⟨b, i⟩, h⟩
        · rw [h] at hb; cases hb
        · exact ⟨pre, b, i, by rw [h, List.concat_eq_append]⟩
      have hmap : s.fs.map eFrm = pre.map eFrm ++ [eFrm (b, i)] := by rw [hfs, List.map_append]; rfl
      refine q_un2 (ed_ixT (ed_var rfl (i3.mono e6)) ed_m1 (by rw [hmap]; exact atI_last _ _)) fun v4 v5 H7 e7 i4 i5 => ?_
      have e5i := i5.i
      subst e5i
      show tSeq _ _ _ [some x, some x0, some v1, some v2, some v3, some v4, some (.int (i : Nat)), o7] H7
      have e47 := (e5.trans e6).trans e7
      have e67 := e6.trans e7
      have w0 : ∀ {n7 : Option V} {H8}, Ex H7 H8 → EvD (tVar 0) [some x, some x0, some v1, some v2, some v3, some v4, some (.int (i : Nat)), n7] H8 (eSta s) := fun e => ed_var rfl (ix.mono (e47.trans e))
      have w2 : ∀ {n7 : Option V} {H8}, Ex H7 H8 → EvD (tVar 2) [some x, some x0, some v1, some v2, some v3, some v4, some (.int (i : Nat)), n7] H8 (eI s.cs) := fun e => ed_var rfl (i1.mono (e67.trans e))
      have w3 : ∀ {n7 : Option V} {H8}, Ex H7 H8 → EvD (tVar 3) [some x, some x0, some v1, some v2, some v3, some v4, some (.int (i : Nat)), n7] H8 (eLast s.last) := fun e => ed_var rfl (i2.mono (e67.trans e))
      have w4 : ∀ {n7 : Option V} {H8}, Ex H7 H8 → EvD (tVar 4) [some x, some x0, some v1, some v2, some v3, some v4, some (.int (i : Nat)), n7] H8 (.tuple (pre.map eFrm ++ [eFrm (b, i)])) := fun e => ed_var rfl (hmap ▸ i3.mono (e67.trans e))
      have w5 : ∀ {n7 : Option V} {H8}, Ex H7 H8 → EvD (tVar 5) [some x, some x0, some v1, some v2, some v3, some v4, some (.int (i : Nat)), n7] H8 (eBlk b) := fun e => ed_var rfl (i4.mono e)
      have w6 : ∀ {n7 : Option V} {H8}, EvD (tVar 6) [some x, some x0, some v1, some v2, some v3, some v4, some (.int (i : Nat)), n7] H8 (.int (i : Nat)) := ed_var rfl (.int (i : Nat))
      have fb : FrmOk c (b, i) := so.fs (b, i) (by rw [hfs]; simp)
      have hlen : pre.length + 1 ≤ 80000 + k := by rw [hfs] at many; simpa using many
      have gl : s.fs.getLast? = some (b, i) := by rw [hfs]; simp
      have dl : s.fs.dropLast = pre := by rw [hfs]; simp
      have enx : nextF 1000 s0 = match b[i]? with
          | some (.do_ o) => .does (fillO s.cs o) ⟨s.cs, s.last, pre ++ [(b, i + 1)]⟩
          | _ => nextF m (stepF s.cs s.last pre b i) := by rw [en, nextF, gl, dl]
      have wst : ∀ {n7 : Option V} {H8} {st : Stm}, b[i]? = some st → Ex H7 H8 → EvD (tOp (rIxT K) (tVar 5) (tVar 6)) [some x, some x0, some v1, some v2, some v3, some v4, some (.int (i : Nat)), n7] H8 (eStm st) := fun h e => ed_ixT (w5 e) w6 (atI_nat (by rw [List.getElem?_map, h]; rfl))
      refine q_when (b := match b[i]? with | some (.do_ _) => true | _ => false) (et_is (et_and (et_D (EvD.is (ed_B0 (g := fun i j => decide (i < j)) w6 (ed_lenT (w5 (Ex.refl H7)))) (show PyData.bool (decide (((i : Nat) : Int) < ((b.map eStm).length : Int))) = .bool (decide (i < b.length)) by rw [List.length_map]; exact congrArg PyData.bool (decide_eq_decide.mpr (by omega))))) (b := match b[i]? with | some (.do_ _) => true | _ => false) (fun h => ?_)) ?_) ?_ ?_
      · have hlt := of_decide_eq_true h
        obtain ⟨st, hst⟩ : ∃ st, b[i]? = some st := ⟨_, List.getElem?_eq_getElem hlt⟩
        obtain ⟨l, hl⟩ := eStm_word st
        have := hl ▸ wst (n7 := o7) hst (Ex.refl H7)
        refine et_is (et_D (ed_eqS (ed_ixT this (ed_i 0) (atI_nat (j := 0) rfl)) (ed_s "do"))) ?_
        rw [hst]
        cases st <;> first | rfl | (simp only [stWord]; exact decide_eq_false (by decide +kernel))
      · by_cases hlt : i < b.length
        · rw [decide_eq_true hlt]; rfl
        · rw [decide_eq_false hlt, List.getElem?_eq_none (by omega)]; rfl
      · intro hd H8 e8
        obtain ⟨o, hst⟩ : ∃ o, b[i]? = some (.do_ o) := by
          revert hd
          cases hb : b[i]? with
          | none => intro h; cases h
          | some st => cases st <;> intro h <;> first | exact ⟨_, rfl⟩ | cases h
        rw [hst] at enx
        have oo : OpTOk s.cs.length o := by
          have := fb.1.at hst
          rw [StmOk, ← so.len] at this
          exact this
        have ws : ∀ {n7 : Option V} {H8}, Ex H7 H8 → EvD (tOp (rIxT K) (tVar 5) (tVar 6)) [some x, some x0, some v1, some v2, some v3, some v4, some (.int (i : Nat)), n7] H8 (.tuple [.str "do", eOpT o]) := fun {n7} {H8} e => by
          have := wst (n7 := n7) hst e
          rw [eStm] at this
          exact this
        refine q_asgD (d := eSta ⟨s.cs, s.last, pre ++ [(b, i + 1)]⟩) (EvD.is (ed_tup (ea1 (w2 e8) (ea1 (w3 e8) (ea1 (ed_catA (ds := pre.map eFrm) (EvD.is (ed_slA (w4 e8) eo_none (eo_i ed_m1)) (by rw [cutD_init, List.dropLast_concat])) (ed_tup (ea1 (ed_tup (ea1 (w5 e8) (ea1 (ed_I0 (g := fun i j => i + j) w6 (ed_i 1)) ea0)) (by show 2 ≤ 100000; omega)) ea0) (by show 1 ≤ 100000; omega)) (by rw [List.length_map]; show _ + 1 ≤ _; omega)) ea0))) (by show 3 ≤ 100000; omega)) (by show _ = PyData.tuple [_, _, .tuple ((pre ++ [(b, i + 1)]).map eFrm)]; rw [List.map_append]; rfl)) fun v7 H9 e9 i7 => ?_
        have e79 := e8.trans e9
        exact s_retD (ed_tup (ea1 (ed_s "do") (ea1 (ed_callQ (ea1 (ed_ixT (ws e79) (ed_i 1) rfl) (ea1 (w2 e79) ea0)) ⟨o, s.cs, rfl, oo, rfl⟩) (ea1 (ed_var rfl i7) ea0))) (by show 3 ≤ 100000; omega)) fun y H10 e10 iy => kk y H10 (((e1.trans e47).trans e79).trans e10) (by rw [enx]; exact iy)
      · intro hd H8 e8
        have en2 : nextF 1000 s0 = nextF m (stepF s.cs s.last pre b i) := by
          rw [enx]
          revert hd
          cases hb : b[i]? with
          | none => intro _; rfl
          | some st => cases st <;> intro h <;> first | rfl | cases h
        refine s_asgD (ed_callQ (d := eSta (stepF s.cs s.last pre b i)) (ea1 (w0 e8) ea0) ⟨s.cs, s.last, pre, b, i, by rw [← hfs], by rw [so.len]; exact hc, so.last, by omega, by rw [so.len]; exact fb.1, fb.2.1, rfl⟩) fun y H9 e9 iy => ?_
        exact ⟨⟨_, y, _, _, _, _, _, _, _, rfl, ((e1.trans e47).trans e8).trans e9, iy, so.step hfs, by rw [en2]; congr 1; omega⟩, ExM.of (((e34.trans e47).trans e8).trans e9)⟩
  · rintro σ' H' ⟨s, x, o1, o2, o3, o4, o5, o6, o7, rfl, e1, ix, so, en⟩
    have hl : ((List.range 1000).map fun i => PyData.int (i : Nat)).length = 1000 := by simp
    rw [hl] at so en
    have en2 : nextF 1000 s0 = .lost ⟨s.cs, s.last, []⟩ := en
    have w0 : ∀ {H8}, Ex H' H8 → EvD (tVar 0) [some x, o1, o2, o3, o4, o5, o6, o7] H8 (eSta s) := fun e => ed_var rfl (ix.mono e)
    exact s_retD (ed_tup (ea1 (ed_s "lost") (ea1 (ed_tup (ea1 (ed_ixT (w0 (Ex.refl H')) (ed_i 0) rfl) (ea1 (ed_ixT (w0 (Ex.refl H')) (ed_i 1) rfl) (ea1 (ed_tup ea0 (by show 0 ≤ 100000; omega)) ea0))) (by show 3 ≤ 100000; omega)) ea0)) (by show 2 ≤ 100000; omega)) fun y H9 e9 iy => kk y H9 (e1.trans e9) (by rw [en2]; exact iy)
end
end K97
set_option Elab.async false
set_option linter.all false
set_option maxRecDepth 100000
set_option maxHeartbeats 4000000
namespace K97
open PySem PySem.Spec PyProof.Rows L2 Evl Pd
section
variable {P : Program} {w : World} {K : PySem.W.Frag} {mg : Str → Option Value} {base : Heap}
theorem cal__law_tape (S : Src K mg "_law_tape" st__law_tape ["script"]) (T : Txt K mg) : Cal P w K mg base CX0 1 "_law_tape" ["script"] (sp_tape K) := by
  have sc := sc__law_tape
  refine S.cal (k := 0) sc (fun vs H Q E h => by obtain ⟨_, _, rfl, _⟩ := h; rfl) (fun f cdv A outer s H vs Q E hr h => ⟨_, (pss_cons (ps_set (i := 1) sc.nd rfl (by first | exact Or.inl rfl | exact Or.inr rfl) pe_int)
  (pss_cons (ps_for PassesOwn.never rfl (k_pi_list (K := K) rfl (pv 0)) (pg_name (i := 2) sc.nd rfl (by first | exact Or.inl rfl | exact Or.inr rfl)) (pss_one (ps_set (i := 1) sc.nd rfl (by first | exact Or.inl rfl | exact Or.inr rfl) (pe_op op_mod (pe_callTy call_int1 (by rfl) T.n_int (by decide +kernel) (pa_cons (pe_op op_add (pe_op op_mul (pv 1) pe_int) (pv 2)) pa_nil)) pe_int))))
  (pss_one (ps_ret (pe_lst (pa_cons (pe_lc (own := [("cell", 2)]) rfl sc.nd (k_pi_list (K := K) rfl (pv 0)) (blkOk_by (by first | decide +kernel | kernel_rfl)) (fun _ _ _ _ _ => (pg_name (i := 2) sc.nd rfl (by first | exact Or.inl rfl | exact Or.inr rfl))) (fun _ _ _ _ _ => pts_nil) (fun _ _ _ _ _ => (pe_callB call_abs (by rfl) T.n_abs (by decide +kernel) (pa_cons (pe_callTy call_int1 (by rfl) T.n_int (by decide +kernel) (pa_cons (pv 2) pa_nil)) pa_nil)))) (pa_cons (pe_op op_add (pv 1) pe_int) pa_nil))))))), ?_⟩)
  obtain ⟨a, ns, rfl, hs, hl, k⟩ := h
  refine q_asgD (ed_i 7) ?_
  intro v H1 e1 iv
  have ev := iv.i
  subst ev
  have wk : ∀ {σ : L2.St} {H2}, σ[0]? = some (some (.ref a)) → Ex H H2 → Wk (iList K (tVar 0)) σ H2 (ns.map .int) := fun h e => wk_sq (ev_var h) (ex_l e hs) (Ims.ofInts ns)
  show tSeq _ _ _ [some (.ref a), some (.int 7), none] H1
  refine q_forM [] (wk rfl e1).m (fun i σ' H' => ∃ (s : Int) (b : Option V), σ' = [some (.ref a), some (.int s), b] ∧ (0 ≤ s ∧ s < 1000003) ∧ Ex H H')
    (fun H2 e2 => ⟨7, none, rfl, ⟨by omega, by omega⟩, e1.trans e2⟩) (fun i σ' H2 H3 ⟨s, b, p1, p2, p3⟩ e => ⟨s, b, p1, p2, p3.trans e⟩) ?_ ?_
  · rintro i d x σ' H3 H4 hd e34 ix ⟨s, b, rfl, ⟨s1, s2⟩, e04⟩
    obtain ⟨n, hn, rfl⟩ : ∃ n, ns[i]? = some n ∧ PyData.int n = d := by
      rw [List.getElem?_map] at hd
      cases e : ns[i]? with
      | none => rw [e] at hd; cases hd
      | some r => rw [e] at hd; exact ⟨r, rfl, Option.some.inj hd⟩
    have ex := ix.i
    subst ex
    show tAsg _ _ _ [some (.ref a), some (.int s), some (.int n)] H4
    refine s_asgD (ed_I (C := fun _ j => 0 < j) (g := fun i j => i % j) (ed_int1 (ed_I0 (ed_I (C := CMul) (g := fun i j => i * j) (ed_var rfl (.int _)) (ed_i 31) (.inr ⟨by omega, by omega⟩)) (ed_var rfl (.int _)))) (ed_i 1000003) (by decide)) ?_
    intro v H5 e5 iv
    have ev := iv.i
    subst ev
    have m1 := Int.emod_nonneg (s * 31 + n) (show (1000003 : Int) ≠ 0 by decide)
    have m2 := Int.emod_lt_of_pos (s * 31 + n) (show (0 : Int) < 1000003 by decide)
    exact ⟨⟨_, _, rfl, ⟨m1, m2⟩, e04.trans e5⟩, ExM.of (e34.trans e5)⟩
  · rintro σ' H' ⟨s, b, rfl, ⟨s1, s2⟩, e04⟩
    refine s_retD (en_lst (ea1 (en_lcM (l := ns) (emb := .int) (fun n => .int (if n < 0 then -n else n)) (wk rfl e04) (by omega) (fun n hn x H5 e5 ix => ed_abs (ed_int1 (ed_var rfl ix))) (fun _ _ => rfl)).toD (ea1 (ed_I0 (ed_var rfl (.int s)) (ed_i 1)) ea0)) (by show 2 ≤ 100000; omega)).toD ?_
    intro v H5 e5 iv
    obtain ⟨t, xs, rfl, g1, g2⟩ := iv.l
    obtain ⟨x, y, rfl, i1, i2⟩ := g2.two
    have ey := i2.i
    subst ey
    obtain ⟨c, ys, rfl, g3, g4⟩ := i1.l
    rw [show ns.map (fun n => PyData.int (if n < 0 then -n else n)) = (ns.map fun n => if n < 0 then -n else n).map PyData.int by rw [List.map_map]; rfl] at g4
    have eys := g4.ints
    subst eys
    refine k t c H5 (e04.trans e5) ⟨fun z => ?_, ⟨s + 1, g1, by omega, by omega⟩, ⟨_, g3, by rw [List.length_map]; exact hl, fun n hn => ?_⟩⟩
    · subst z
      rw [g1] at g3
      have h := HO.lst.inj (Option.some.inj g3)
      cases ns with
      | nil => cases h
      | cons n ns => simp at h
    · obtain ⟨m, _, rfl⟩ := List.mem_map.mp hn
      split <;> omega
theorem cal__law_draw (S : Src K mg "_law_draw" st__law_draw ["tape", "many"]) (T : Txt K mg) : Cal P w K mg base CX0 1 "_law_draw" ["tape", "many"] sp_draw := by
  have sc := sc__law_draw
  refine S.cal (k := 0) sc (fun vs H Q E h => by obtain ⟨_, _, _, rfl, _⟩ := h; rfl) (fun f cdv A outer s H vs Q E hr h => ⟨_, (pss_cons (ps_set (i := 2) sc.nd rfl (by first | exact Or.inl rfl | exact Or.inr rfl) (pe_ix (k_ix_list (K := K) rfl) (pv 0) pe_int (fun _ _ => rfl)))
  (pss_cons (ps_while PassesOwn.never (PW.pt (pw_and (pt_cmpR op_gt (pe_callB (k_len_seq (K := K) rfl) (by rfl) T.n_len PySem.boot_len (pa_cons (pv 2) pa_nil)) pe_int (nomark _)) (pw_and1 (pt_cmpR op_eq (pe_ix (k_ix_list (K := K) rfl) (pv 2) pe_int (fun _ _ => rfl)) pe_int (nomark _))))) (pss_one (ps_expr (k_pop (K := K) rfl (pv 2) (pa_cons pe_int pa_nil)))))
  (pss_cons (ps_if (pt_cmpR op_gt (pe_callB (k_len_seq (K := K) rfl) (by rfl) T.n_len PySem.boot_len (pa_cons (pv 2) pa_nil)) pe_int (nomark _)) (pss_cons (ps_set (i := 3) sc.nd rfl (by first | exact Or.inl rfl | exact Or.inr rfl) (pe_ix (k_ix_list (K := K) rfl) (pv 2) pe_int (fun _ _ => rfl)))
  (pss_cons (ps_asg (pe_op op_fdiv (pv 3) (pv 1)) (pg_sub (pv 2) pe_int set_list))
  (pss_one (ps_ret (pe_op op_mod (pe_callTy call_int1 (by rfl) T.n_int (by decide +kernel) (pa_cons (pv 3) pa_nil)) (pv 1)))))) pss_nil)
  (pss_cons (ps_asg (pe_op op_mod (pe_callTy call_int1 (by rfl) T.n_int (by decide +kernel) (pa_cons (pe_op op_add (pe_op op_mul (pe_ix (k_ix_list (K := K) rfl) (pv 0) pe_int (fun _ _ => rfl)) pe_int) pe_int) pa_nil)) pe_int) (pg_sub (pv 0) pe_int set_list))
  (pss_one (ps_ret (pe_op op_mod (pe_callTy call_int1 (by rfl) T.n_int (by decide +kernel) (pa_cons (pe_op op_fdiv (pe_ix (k_ix_list (K := K) rfl) (pv 0) pe_int (fun _ _ => rfl)) pe_int) pa_nil)) (pv 1)))))))), ?_⟩)
  obtain ⟨t, c, m, rfl, T0, hm1, hm2, k⟩ := h
  obtain ⟨hne, ⟨s, ht, hs1, hs2⟩, ⟨ns0, hc0, hl0, hp0⟩⟩ := T0
  refine q_asg (ev_op (ev_var rfl) ev_c (rv_ixL (SqL.of ht) (v := .ref c) rfl)) ?_
  intro H1 e1
  show tSeq (tWhile _ _) _ _ [some (.ref t), some (.int m), some (.ref c), none] H1
  refine s_while (fun n σ' H' => σ' = [some (.ref t), some (.int m), some (.ref c), none] ∧ ExM [t, c] H H' ∧ H' t = some (.lst [.ref c, .int s]) ∧ ∃ ns : List Int, ns.length = n ∧ H' c = some (.lst (ns.map V.int)) ∧ ns.length ≤ 63 ∧ ∀ n ∈ ns, 0 ≤ n) ns0.length
    ⟨rfl, ExM.of e1, e1 _ _ ht, ns0, rfl, e1 _ _ hc0, hl0, hp0⟩ ?_
  rintro n σ' H2 ⟨rfl, e2, ht2, ns, rfl, hc2, hl2, hp2⟩
  have im : Im H2 (.ref c) (.list (ns.map .int)) := .lst hc2 (Ims.ofInts ns)
  have hcv : ∀ {b : Option V} {H3}, Ex H2 H3 → EvD (tVar 2) [some (.ref t), some (.int m), some (.ref c), b] H3 (.list (ns.map .int)) := fun e => ed_var rfl (im.mono e)
  have hlen : ∀ {b : Option V} {H3}, Ex H2 H3 → EvD (tOp (rI0 fun i j => .bl (decide (j < i))) (tCB (rLenS K) (tCons (tVar 2) tNil)) (tC (.int 0))) [some (.ref t), some (.int m), some (.ref c), b] H3 (.bool (decide (0 < ns.length))) := fun e => EvD.is (ed_B0 (ed_lenL (hcv e)) (ed_i 0)) (by rw [List.length_map]; congr 1; simp)
  have h0 : decide (0 < ns.length) = true → atI (ns.map PyData.int) (0 : Int) = some (.int (ns.headD 0)) := fun h => by
    cases ns with
    | nil => simp at h
    | cons a l => exact atI_nat (j := 0) rfl
  refine ⟨decide (0 < ns.length) && decide (ns.headD 0 = 0), et_and (et_D (hlen (Ex.refl _))) (fun h => et_D (ed_eqI (ed_ixL (hcv (Ex.refl _)) (ed_i 0) (h0 h)) (ed_i 0))), ?_, ?_⟩
  · intro hb H3 e3
    cases ns with
    | nil => cases hb
    | cons a l =>
      refine ⟨fun σ2 H4 => σ2 = [some (.ref t), some (.int m), some (.ref c), none] ∧ ExM [t, c] H H4 ∧ H4 t = some (.lst [.ref c, .int s]) ∧ H4 c = some (.lst (l.map V.int)), fun σ2 H4 ⟨q1, q2, q3, q4⟩ => ⟨l.length, by simp, q1, q2, q3, l, rfl, q4, by have : (a :: l).length = l.length + 1 := rfl; omega, fun n hn => hp2 n (List.mem_cons_of_mem _ hn)⟩, ?_⟩
      refine s_pop0 (x := .int a) (xs := l.map V.int) (e3 _ _ hc2) (ev_var rfl) ev_c ?_
      intro H4 e4
      refine ⟨rfl, (e2.trans (ExM.of (e3.trans e4))).trans (ExM.upd ((e3.trans e4) _ _ hc2) (by simp)), ?_, upd_same⟩
      rw [upd_ne hne]
      exact (e3.trans e4) _ _ ht2
  · intro hb H3 e3
    refine q_when (et_D (hlen e3)) ?_ ?_
    · intro hg H4 e4
      have e24 := e3.trans e4
      refine q_asgD (ed_ixL (hcv e24) (ed_i 0) (h0 hg)) ?_
      intro v H5 e5 iv
      have ev := iv.i
      subst ev
      cases ns with
      | nil => cases hg
      | cons a l =>
        have e25 := e24.trans e5
        show tSeq (tAsg _ _) _ _ [some (.ref t), some (.int m), some (.ref c), some (.int a)] H5
        refine s_setL (xs := (a :: l).map V.int) (j := 0) (v := .int (a / (m : Int))) (e25 _ _ hc2) (EvD.evI (ed_I (C := CDiv) (g := fun i j => i / j) (ed_var rfl (.int _)) (ed_var rfl (.int _)) ⟨by omega, by omega⟩)) (ev_var rfl) ev_c (by simp) ?_
        intro H6 e6
        have e26 := e25.trans e6
        refine s_retD (ed_I (C := fun _ j => 0 < j) (g := fun i j => i % j) (ed_int1 (ed_var rfl (.int _))) (ed_var rfl (.int _)) (by omega)) ?_
        intro v H7 e7 iv
        have ev := iv.i
        subst ev
        have pa := hp2 a (List.mem_cons_self ..)
        have m1 := Int.emod_nonneg a (show (m : Int) ≠ 0 by omega)
        have m2 := Int.emod_lt_of_pos a (show (0 : Int) < m by omega)
        have em : a % (m : Int) = ((a % (m : Int)).toNat : Int) := by omega
        rw [em]
        refine k _ (by omega) H7 ⟨((e2.trans (ExM.of e26)).trans (ExM.upd (e26 _ _ hc2) (by simp))).trans (ExM.of e7), Tape.ex ⟨hne, ⟨s, by rw [upd_ne hne]; exact e26 _ _ ht2, hs1, hs2⟩, ⟨a / (m : Int) :: l, upd_same, by have : (a :: l).length = (a / (m : Int) :: l).length := rfl; omega, fun n hn => ?_⟩⟩ e7⟩
        rcases List.mem_cons.mp hn with rfl | hn
        · exact Int.ediv_nonneg pa (by omega)
        · exact hp2 n (List.mem_cons_of_mem _ hn)
    · intro hg H4 e4
      have e24 := e3.trans e4
      have hix : ∀ {b : Option V} {H5 : Hp} {z : Int}, H5 t = some (.lst [.ref c, .int z]) → EvD (tOp (rIxL K) (tVar 0) (tC (.int 1))) [some (.ref t), some (.int m), some (.ref c), b] H5 (.int z) := fun h => EvD.of_ev (ev_op (ev_var rfl) ev_c (rv_ixL (SqL.of h) (v := .int _) rfl)) (.int _)
      have m1 := Int.emod_nonneg (s * 48271 + 12345) (show (2147483647 : Int) ≠ 0 by decide)
      have m2 := Int.emod_lt_of_pos (s * 48271 + 12345) (show (0 : Int) < 2147483647 by decide)
      show tSeq (tAsg _ _) _ _ [some (.ref t), some (.int m), some (.ref c), none] H4
      refine s_setL (xs := [.ref c, .int s]) (j := 1) (v := .int ((s * 48271 + 12345) % 2147483647)) (e24 _ _ ht2) (EvD.evI (ed_I (C := fun _ j => 0 < j) (g := fun i j => i % j) (ed_int1 (ed_I0 (ed_I (C := CMul) (g := fun i j => i * j) (hix (e24 _ _ ht2)) (ed_i 48271) (.inr ⟨by omega, by omega⟩)) (ed_i 12345))) (ed_i 2147483647) (by decide))) (ev_var rfl) ev_c (by simp) ?_
      intro H5 e5
      have e25 := e24.trans e5
      refine s_retD (ed_I (C := fun _ j => 0 < j) (g := fun i j => i % j) (ed_int1 (ed_I (C := CDiv) (g := fun i j => i / j) (hix upd_same) (ed_i 64) ⟨by omega, by omega⟩)) (ed_var rfl (.int _)) (by omega)) ?_
      intro v H6 e6 iv
      have ev := iv.i
      subst ev
      have z1 := Int.emod_nonneg ((s * 48271 + 12345) % 2147483647 / 64) (show (m : Int) ≠ 0 by omega)
      have z2 := Int.emod_lt_of_pos ((s * 48271 + 12345) % 2147483647 / 64) (show (0 : Int) < m by omega)
      have em : (s * 48271 + 12345) % 2147483647 / 64 % (m : Int) = (((s * 48271 + 12345) % 2147483647 / 64 % (m : Int)).toNat : Int) := by omega
      rw [em]
      refine k _ (by omega) H6 ⟨((e2.trans (ExM.of e25)).trans (ExM.upd (e25 _ _ ht2) (by simp))).trans (ExM.of e6), Tape.ex ⟨hne, ⟨_, upd_same, m1, by omega⟩, ⟨ns, by rw [upd_ne (fun z => hne z.symm)]; exact e25 _ _ hc2, hl2, hp2⟩⟩ e6⟩
theorem cal__law_pick (S : Src K mg "_law_pick" st__law_pick ["tape", "row"]) (T : Txt K mg) (C__law_draw : Cal P w K mg base CX0 1 "_law_draw" ["tape", "many"] sp_draw) : Cal P w K mg base CX0 2 "_law_pick" ["tape", "row"] sp_pick := by
  have sc := sc__law_pick
  refine S.cal (k := 1) sc (fun vs H Q E h => by obtain ⟨_, _, _, _, rfl, _⟩ := h; rfl) (fun f cdv A outer s H vs Q E hr h => ⟨_, (pss_one (ps_ret (pe_ix (k_ix_list (K := K) rfl) (pv 1) (pe_cal C__law_draw (hr.mono (by first | decide | omega)) rfl pass0 (pa_cons (pv 0) (pa_cons (pe_callB (k_len_seq (K := K) rfl) (by rfl) T.n_len PySem.boot_len (pa_cons (pv 1) pa_nil)) pa_nil))) (fun _ _ => rfl)))), ?_⟩)
  obtain ⟨t, c, p, xs, rfl, T0, hp, hx, hne, hl, k⟩ := h
  refine s_retOp (ev_var rfl) fun H1 e1 => ?_
  have T1 := T0.ex e1
  refine drawn rfl T1 (m := xs.length) (EvD.of_ev (ev_len (ev_var rfl) (SqL.of (e1 _ _ hx))) (.int _)) (by cases xs with | nil => exact absurd rfl hne | cons a l => simp) hl ?_
  intro r hr' H2 g
  have hg : xs[r]? = some xs[r] := List.getElem?_eq_getElem hr'
  refine ⟨p, xs, (r : Int), xs[r], rfl, rfl, SqL.of (g.at hp (e1 _ _ hx)), ?_, k r _ hg H2 ((Go.of T0 e1).trans g)⟩
  unfold atI
  rw [ixN_nat hr']
  exact hg
end
end K97
set_option Elab.async false
set_option linter.all false
set_option maxRecDepth 100000
set_option maxHeartbeats 4000000
namespace K97
open PySem PySem.Spec PyProof.Rows L2 Evl Pd
/-- data that is compared -/
inductive OkS : Nat → PyData → Prop
  | str (n : Nat) (s : Str) : PyData.strOk s = true → OkS n (.str s)
  | int (n : Nat) (i : Int) : OkS n (.int i)
  | bool (n : Nat) (i : Bool) : OkS n (.bool i)
  | non (n : Nat) : OkS n .none
  | tup (n : Nat) (ds : List PyData) : ds.length ≤ 1000 → (∀ x ∈ ds, OkS n x) → OkS (n + 1) (.tuple ds)
def sp_same (n : Nat) : Sp := SpQ fun ds d => ∃ x, ds = [x, x] ∧ OkS n x ∧ d = .bool true
def isListB : PyData → Bool
  | .list _ => true
  | _ => false
theorem ty_list : ∀ d, kitB (tyN d) "list" = some (isListB d)
  | .none => kt_NoneType_list
  | .bool _ => kt_bool_list
  | .int _ => kt_int_list
  | .str _ => kt_str_list
  | .list _ => kt_list_list
  | .tuple _ => kt_tuple_list
  | .dict _ => kt_dict_list
theorem all_trueR (n : Nat) : ((List.range n).map fun _ => true).all id = true := by
  rw [List.all_eq_true]
  intro b hb
  obtain ⟨_, _, rfl⟩ := List.mem_map.mp hb
  rfl
section
variable {P : Program} {w : World} {K : PySem.W.Frag} {mg : Str → Option Value} {base : Heap}
/-- the recursive step -/
theorem same_step (S : Src K mg "_law_same" st__law_same ["one", "other"]) (T : Txt K mg) {k n : Nat} {sp : Sp} (C__law_same : Cal P w K mg base CX0 k "_law_same" ["one", "other"] sp) (hn : ∀ m, n = m + 1 → sp = sp_same m) : Cal P w K mg base CX0 (k + 1) "_law_same" ["one", "other"] (sp_same n) := by
  have sc := sc__law_same
  refine S.cal (k := k) sc (SpQ.len fun ds d h => by obtain ⟨s, rfl, _⟩ := h; rfl) (fun f cdv A outer s H vs Q E hr h => ⟨_, (pss_cons (ps_if (PW.pt (pw_or (pt_val (pe_callB (k_isi (K := K) rfl) (by rfl) T.n_isinstance (by decide +kernel) (pa_cons (pv 0) (pa_cons (pe_bltn (v := .ty "tuple") (by rfl) T.n_tuple (by decide +kernel) rfl) pa_nil)))) (pw_or1 (pt_val (pe_callB (k_isi (K := K) rfl) (by rfl) T.n_isinstance (by decide +kernel) (pa_cons (pv 1) (pa_cons (pe_bltn (v := .ty "tuple") (by rfl) T.n_tuple (by decide +kernel) rfl) pa_nil))))))) (pss_cons (ps_if (PW.pt (pw_or (pt_not (pt_val (pe_callB (k_isi (K := K) rfl) (by rfl) T.n_isinstance (by decide +kernel) (pa_cons (pv 0) (pa_cons (pe_bltn (v := .ty "tuple") (by rfl) T.n_tuple (by decide +kernel) rfl) pa_nil))))) (pw_or (pt_not (pt_val (pe_callB (k_isi (K := K) rfl) (by rfl) T.n_isinstance (by decide +kernel) (pa_cons (pv 1) (pa_cons (pe_bltn (v := .ty "tuple") (by rfl) T.n_tuple (by decide +kernel) rfl) pa_nil))))) (pw_or1 (pt_cmpR op_ne (pe_callB (k_len_seq (K := K) rfl) (by rfl) T.n_len PySem.boot_len (pa_cons (pv 0) pa_nil)) (pe_callB (k_len_seq (K := K) rfl) (by rfl) T.n_len PySem.boot_len (pa_cons (pv 1) pa_nil)) (nomark _)))))) (pss_one (ps_ret pe_bl)) pss_nil)
  (pss_one (ps_ret (pe_callB (k_all (K := K) rfl rfl) (by rfl) T.n_all (by decide +kernel) (pa_cons (pe_lc (own := [("k", 2)]) rfl sc.nd (pi_range1 (by rfl) T.n_range (pa_cons (pe_callB (k_len_seq (K := K) rfl) (by rfl) T.n_len PySem.boot_len (pa_cons (pv 0) pa_nil)) pa_nil)) (blkOk_by (by first | decide +kernel | kernel_rfl)) (fun _ _ _ _ _ => (pg_name (i := 2) sc.nd rfl (by first | exact Or.inl rfl | exact Or.inr rfl))) (fun _ _ _ _ _ => pts_nil) (fun _ _ _ _ _ => (pe_cal C__law_same (hr.mono (by first | decide | omega)) rfl pass0 (pa_cons (pe_ix (k_ix_tup (K := K) rfl) (pv 0) (pv 2) (fun _ _ => rfl)) (pa_cons (pe_ix (k_ix_tup (K := K) rfl) (pv 1) (pv 2) (fun _ _ => rfl)) pa_nil))))) pa_nil))))) pss_nil)
  (pss_cons (ps_if (PW.pt (pw_or (pt_cmpR op_ne (pe_callB (k_isi (K := K) rfl) (by rfl) T.n_isinstance (by decide +kernel) (pa_cons (pv 0) (pa_cons (pe_bltn (v := .ty "str") (by rfl) T.n_str (by decide +kernel) rfl) pa_nil))) (pe_callB (k_isi (K := K) rfl) (by rfl) T.n_isinstance (by decide +kernel) (pa_cons (pv 1) (pa_cons (pe_bltn (v := .ty "str") (by rfl) T.n_str (by decide +kernel) rfl) pa_nil))) (nomark _)) (pw_or1 (pt_cmpR op_ne (pe_callB (k_isi (K := K) rfl) (by rfl) T.n_isinstance (by decide +kernel) (pa_cons (pv 0) (pa_cons (pe_bltn (v := .ty "bool") (by rfl) T.n_bool (by decide +kernel) rfl) pa_nil))) (pe_callB (k_isi (K := K) rfl) (by rfl) T.n_isinstance (by decide +kernel) (pa_cons (pv 1) (pa_cons (pe_bltn (v := .ty "bool") (by rfl) T.n_bool (by decide +kernel) rfl) pa_nil))) (nomark _))))) (pss_one (ps_ret pe_bl)) pss_nil)
  (pss_cons (ps_if (PW.pt (pw_or (pt_cmpR op_ne (pe_callB (k_isi (K := K) rfl) (by rfl) T.n_isinstance (by decide +kernel) (pa_cons (pv 0) (pa_cons (pe_bltn (v := .ty "int") (by rfl) T.n_int (by decide +kernel) rfl) pa_nil))) (pe_callB (k_isi (K := K) rfl) (by rfl) T.n_isinstance (by decide +kernel) (pa_cons (pv 1) (pa_cons (pe_bltn (v := .ty "int") (by rfl) T.n_int (by decide +kernel) rfl) pa_nil))) (nomark _)) (pw_or (pt_val (pe_callB (k_isi (K := K) rfl) (by rfl) T.n_isinstance (by decide +kernel) (pa_cons (pv 0) (pa_cons (pe_bltn (v := .ty "list") (by rfl) T.n_list (by decide +kernel) rfl) pa_nil)))) (pw_or1 (pt_val (pe_callB (k_isi (K := K) rfl) (by rfl) T.n_isinstance (by decide +kernel) (pa_cons (pv 1) (pa_cons (pe_bltn (v := .ty "list") (by rfl) T.n_list (by decide +kernel) rfl) pa_nil)))))))) (pss_one (ps_ret pe_bl)) pss_nil)
  (pss_one (ps_ret (pe_cmpR (k_eqD (K := K) rfl (hr.units)) (pv 0) (pv 1) (nomark _))))))), ?_⟩)
  obtain ⟨ds, d, i, ⟨x, rfl, ok, rfl⟩, kk⟩ := h
  obtain ⟨v, w', rfl, iv, iw⟩ := i.two
  have h0 : ∀ {a : Option V} {H1}, Ex H H1 → EvD (tVar 0) [some v, some w', a] H1 x := fun e => ed_var rfl (iv.mono e)
  have h1 : ∀ {a : Option V} {H1}, Ex H H1 → EvD (tVar 1) [some v, some w', a] H1 x := fun e => ed_var rfl (iw.mono e)
  show tSeq (tIfS _ _ _) (tSeq (tIfS (tOr (tTest (tOp rNe (tCB (rIsi K) (tCons (tVar 0) (tCons (tC (.ty "str")) tNil))) (tCB (rIsi K) (tCons (tVar 1) (tCons (tC (.ty "str")) tNil))))) (tTest (tOp rNe (tCB (rIsi K) (tCons (tVar 0) (tCons (tC (.ty "bool")) tNil))) (tCB (rIsi K) (tCons (tVar 1) (tCons (tC (.ty "bool")) tNil)))))) _ _) (tSeq (tIfS (tOr (tTest (tOp rNe (tCB (rIsi K) (tCons (tVar 0) (tCons (tC (.ty "int")) tNil))) (tCB (rIsi K) (tCons (tVar 1) (tCons (tC (.ty "int")) tNil))))) (tOr (tB (tCB (rIsi K) (tCons (tVar 0) (tCons (tC (.ty "list")) tNil)))) (tB (tCB (rIsi K) (tCons (tVar 1) (tCons (tC (.ty "list")) tNil)))))) _ _) (tRet (tOp (rEqD K) (tVar 0) (tVar 1))))) _ [some v, some w', none] H
  by_cases hx : isTupB x = true
  · obtain ⟨ds, rfl⟩ : ∃ ds, x = .tuple ds := by cases x <;> first | exact ⟨_, rfl⟩ | cases hx
    cases ok with
    | tup m _ hl hm =>
    have esp := hn m rfl
    subst esp
    refine q_when (b := true) (et_or (a := true) (b := true) (et_DB (ed_isi (h0 (Ex.refl H)) kt_tuple_tuple)) (fun z => by cases z)) ?_ (fun z => by cases z)
    intro _ H1 e1
    refine q_when (b := false) (et_is (et_or (et_not (et_DB (ed_isi (h0 e1) kt_tuple_tuple))) (fun _ => et_or (et_not (et_DB (ed_isi (h1 e1) kt_tuple_tuple))) (fun _ => et_D (ed_neI (ed_lenT (h0 e1)) (ed_lenT (h1 e1)))))) (by simp)) (fun z => by cases z) ?_
    intro _ H2 e2
    have e02 := e1.trans e2
    refine s_retD (ed_all (bs := (List.range ds.length).map fun _ => true) (EvD.is (en_lcM (l := List.range ds.length) (emb := fun i => .int (i : Nat)) (fun _ => .bool true) (wm_range (ea1 (ed_lenT (h0 e02)) ea0) (by omega)).wk (by rw [List.length_range]; omega) (fun j hj z H3 e3 iz => ?_) (fun _ _ => rfl)).toD (by rw [List.map_map]; rfl))) ?_
    · have hj' : j < ds.length := List.mem_range.mp hj
      have hg : ds[j]? = some ds[j] := List.getElem?_eq_getElem hj'
      exact ed_callQ (ea1 (ed_ixT (h0 (e02.trans e3)) (ed_var rfl iz) (atI_nat hg)) (ea1 (ed_ixT (h1 (e02.trans e3)) (ed_var rfl iz) (atI_nat hg)) ea0)) ⟨ds[j], rfl, hm _ (List.mem_of_getElem? hg), rfl⟩
    · intro v2 H3 e3 iv3
      rw [all_trueR] at iv3
      exact kk v2 H3 (e02.trans e3) iv3
  · have hxf : isTupB x = false := by cases h : isTupB x <;> first | rfl | exact absurd h hx
    have hL : isListB x = false := by cases ok <;> rfl
    have k1 : kitB (tyN x) "tuple" = some false := by rw [ty_tup, hxf]
    have k2 : kitB (tyN x) "list" = some false := by rw [ty_list, hL]
    have sh : SeqAt.shaped x = true ∧ PyData.eqv x x = true := by
      cases ok with
      | str _ s hs => exact ⟨by simp [SeqAt.shaped, PyData.canLay0, PyData.depth, hs], by simp [PyData.eqv]⟩
      | int _ i => exact ⟨by simp [SeqAt.shaped, PyData.canLay0, PyData.depth], by simp [PyData.eqv]⟩
      | bool _ i => exact ⟨by simp [SeqAt.shaped, PyData.canLay0, PyData.depth], by simp [PyData.eqv]⟩
      | non _ => exact ⟨by simp [SeqAt.shaped, PyData.canLay0, PyData.depth], by simp [PyData.eqv]⟩
      | tup m ds _ _ => exact absurd rfl hx
    refine q_when (et_or (et_DB (ed_isi (h0 (Ex.refl H)) k1)) (fun _ => et_DB (ed_isi (h1 (Ex.refl H)) k1))) (fun z => by cases z) ?_
    intro _ H1 e1
    refine q_when (b := false) (et_is (et_or (et_D (ed_neB (ed_isi (h0 e1) (ty_str x)) (ed_isi (h1 e1) (ty_str x)))) (fun _ => et_D (ed_neB (ed_isi (h0 e1) (ty_bool x)) (ed_isi (h1 e1) (ty_bool x))))) (by simp)) (fun z => by cases z) ?_
    intro _ H2 e2
    have e02 := e1.trans e2
    refine q_when (b := false) (et_is (et_or (et_D (ed_neB (ed_isi (h0 e02) (ty_int x)) (ed_isi (h1 e02) (ty_int x)))) (fun _ => et_or (et_DB (ed_isi (h0 e02) k2)) (fun _ => et_DB (ed_isi (h1 e02) k2)))) (by simp)) (fun z => by cases z) ?_
    intro _ H3 e3
    have e03 := e02.trans e3
    refine s_retD (ed_eqD (h0 e03) (h1 e03) sh.1 sh.1) ?_
    intro v2 H4 e4 iv3
    rw [sh.2] at iv3
    exact kk v2 H4 (e03.trans e4) iv3
theorem cal__law_same (S : Src K mg "_law_same" st__law_same ["one", "other"]) (T : Txt K mg) : ∀ n, Cal P w K mg base CX0 (n + 1) "_law_same" ["one", "other"] (sp_same n)
  | 0 => same_step S T (k := 0) (sp := fun _ _ _ _ => False) (cal_false S) (fun m h => by omega)
  | n + 1 => same_step S T (k := n + 1) (cal__law_same S T n) (fun m h => by
      have : n = m := by omega
      rw [this])
end
end K97
set_option Elab.async false
set_option linter.all false
set_option maxRecDepth 100000
set_option maxHeartbeats 4000000
namespace Pd
open PySem PySem.Spec PyProof.Rows L2 Evl
section
variable {K : PySem.W.Frag} {σ : L2.St} {H : Hp} {ta tb te : TE} {t c : Addr} {u : TT} {D : Ends} {tz : TS} {P : PyData → Prop} {PB : Bool → Prop}
theorem q_par3 {tr : TA} {i j l : Nat} (h : tr σ H fun vs H1 => ∃ u v w, vs = [u, v, w] ∧ tz D (((σ.set i (some u)).set j (some v)).set l (some w)) H1) : tSeq (tPar3 i j l tr) tz D σ H := h
theorem q_par2 {tr : TA} {i j : Nat} (h : tr σ H fun vs H1 => ∃ v w, vs = [v, w] ∧ tz D ((σ.set i (some v)).set j (some w)) H1) : tSeq (tPar i j tr) tz D σ H := h
theorem cstA {v : V} {Q : VK} (k : Q v H) : tC v σ H Q := k
theorem nilA {Q : List V → Hp → Prop} (k : Q [] H) : tNil σ H Q := k
theorem tupA {tr : TA} {Q : VK} (k : tr σ H fun xs H1 => xs.length ≤ sizeLine ∧ ∀ p, H1 p = none → Q (.ref p) (upd H1 p (.tup xs))) : tTup tr σ H Q := k
/-- a name that an if may set anew -/
theorem q_whenAsgG {i : Nat} {v0 : V} {d0 : PyData} (T : Tape t c H) (h : EvGT t c u σ H PB) (h1 : PB true → EvG t c te σ H P) (h0 : σ.set i (some v0) = σ) (i0 : Im H v0 d0) (s0 : still d0 = true) (p0 : PB false → P d0)
    (k : ∀ v d H1, Go t c H H1 → still d = true → P d → Im H1 v d → tz D (σ.set i (some v)) H1) : tSeq (tIfS u (tAsg te (gName i)) tNext) tz D σ H :=
  q_whenG T h (fun p H1 g => s_asgG (D := { D with nx := tz D }) g.2 ((h1 p).mono g) fun v d H2 g2 s pd iv => k v d H2 (g.trans g2) s pd iv) fun p H1 g => by
    have := k v0 d0 H1 g s0 (p0 p) (g.im s0 i0)
    rw [h0] at this
    exact this
theorem eg_big (i : Int) (j : Int) (hj : CPow i j) (hp : P (.int (i ^ j.toNat))) : EvG t c (tOp (rI CPow fun i j => .int (i ^ j.toNat)) (tC (.int i)) (tC (.int j))) σ H P := eg_d (d := .int (i ^ j.toNat)) (fun H1 g => ed_I (g := fun i j => i ^ j.toNat) (ed_i i) (ed_i j) hj) rfl hp
theorem ed_big (i : Int) (j : Int) (hj : CPow i j) : EvD (tOp (rI CPow fun i j => .int (i ^ j.toNat)) (tC (.int i)) (tC (.int j))) σ H (.int (i ^ j.toNat)) := ed_I (g := fun i j => i ^ j.toNat) (ed_i i) (ed_i j) hj
end
end Pd
namespace K97
open PySem PySem.Spec PyProof.Rows L2 Evl Pd
abbrev IntP : PyData → Prop := fun d => ∃ i : Int, d = .int i
abbrev StrIn (L : List Str) : PyData → Prop := fun d => ∃ s : Str, s ∈ L ∧ d = .str s
def D_op (ds : List PyData) (P : PyData → Prop) : Prop := ∃ R G : Nat, ds = [.int (R : Nat), .int (G : Nat)] ∧ R ≤ 1000 ∧ 1 ≤ G ∧ G ≤ 1000 ∧ ∀ w ns, (w, ns.length) ∈ opShapes → P (eOpT (.plain w ns))
def opW : List Str := ["put", "set", "store", "load", "put", "root", "take", "get", "put", "copy", "store", "drop", "same", "size"]
def opX : List Str := ["put", "set", "store", "load", "root", "take", "get", "copy", "drop", "same", "size"]
theorem opW_X : ∀ s ∈ opW, s ∈ opX := by decide +kernel
abbrev e18 : TE := tOp (rI CPow fun i j => .int (i ^ j.toNat)) (tC (.int 10)) (tC (.int 18))
theorem cp18 : CPow 10 18 := ⟨by decide, by decide, by decide⟩
section
variable {K : PySem.W.Frag} {σ : L2.St} {H : Hp} {t c : Addr}
theorem ig (i : Int) : EvG t c (tC (.int i)) σ H IntP := eg_i i ⟨i, rfl⟩
theorem ig_m1 : EvG t c (tUn (rU fun i => V.int (-i)) (tC (.int 1))) σ H IntP := eg_d (d := .int (-1)) (fun H1 g => ed_m1) rfl ⟨-1, rfl⟩
theorem ig_18 : EvG t c e18 σ H IntP := eg_big 10 18 cp18 ⟨_, rfl⟩
theorem ig_18m : EvG t c (tOp (rI0 fun i j => .int (i - j)) e18 (tC (.int 1))) σ H IntP := eg_d (d := .int (10 ^ 18 - 1)) (fun H1 g => ed_I0 (g := fun i j => i - j) (ed_big 10 18 cp18) (ed_i 1)) rfl ⟨_, rfl⟩
theorem ig_m18 : EvG t c (tOp (rI0 fun i j => .int (i - j)) (tC (.int 1)) e18) σ H IntP := eg_d (d := .int (1 - 10 ^ 18)) (fun H1 g => ed_I0 (g := fun i j => i - j) (ed_i 1) (ed_big 10 18 cp18)) rfl ⟨_, rfl⟩
/-- one of a written list of ints -/
theorem egs_int {te : TE} {tr : TA} (h : EvG t c te σ H IntP) (hr : EvGs t c tr σ H fun ds => ds.length ≤ 100 ∧ ∀ d ∈ ds, IntP d) (n : Nat) : EvGs t c (tCons te tr) σ H fun ds => ds ≠ [] ∧ ds.length ≤ 1000 ∧ ∀ d ∈ ds, IntP d :=
  egs1 h fun d hd => hr.w fun ds ⟨h1, h2⟩ => ⟨by simp, by rw [List.length_cons]; omega, fun x hx => by
    rcases List.mem_cons.mp hx with rfl | hx
    · exact hd
    · exact h2 x hx⟩
theorem egs_n0 {P : PyData → Prop} : EvGs t c tNil σ H fun ds => ds.length ≤ 0 ∧ ∀ d ∈ ds, P d := egs0 ⟨Nat.le_refl _, fun d hd => by cases hd⟩
theorem egs_n1 {P : PyData → Prop} {te : TE} {tr : TA} {n : Nat} (h : EvG t c te σ H P) (hr : EvGs t c tr σ H fun ds => ds.length ≤ n ∧ ∀ d ∈ ds, P d) : EvGs t c (tCons te tr) σ H fun ds => ds.length ≤ n + 1 ∧ ∀ d ∈ ds, P d :=
  egs1 h fun d hd => hr.w fun ds ⟨h1, h2⟩ => ⟨by rw [List.length_cons]; omega, fun x hx => by
    rcases List.mem_cons.mp hx with rfl | hx
    · exact hd
    · exact h2 x hx⟩
theorem egs_some {P : PyData → Prop} {te : TE} {tr : TA} {n : Nat} (h : EvG t c te σ H P) (hr : EvGs t c tr σ H fun ds => ds.length ≤ n ∧ ∀ d ∈ ds, P d) (hn : n ≤ 500) : EvGs t c (tCons te tr) σ H fun ds => ds ≠ [] ∧ ds.length ≤ 1000 ∧ ∀ d ∈ ds, P d :=
  egs1 h fun d hd => hr.w fun ds ⟨h1, h2⟩ => ⟨by simp, by rw [List.length_cons]; omega, fun x hx => by
    rcases List.mem_cons.mp hx with rfl | hx
    · exact hd
    · exact h2 x hx⟩
theorem ed_words2 {a b : Str} : EvD (tLst (tCons (tC (.str a)) (tCons (tC (.str b)) tNil))) σ H (.list ([a, b].map .str)) := (en_lst (ea1 (ed_s a) (ea1 (ed_s b) ea0)) (by show 2 ≤ 100000; omega)).toD
/-- a tuple of a text and two more -/
theorem eg_t3 {P P1 P2 P3 : PyData → Prop} {t1 t2 t3 : TE} (h1 : EvG t c t1 σ H P1) (h2 : EvG t c t2 σ H P2) (h3 : EvG t c t3 σ H P3) (hp : ∀ a b d, P1 a → P2 b → P3 d → P (.tuple [a, b, d])) : EvG t c (tTup (tCons t1 (tCons t2 (tCons t3 tNil)))) σ H P :=
  eg_tup (egs1 h1 fun a pa => egs1 h2 fun b pb => egs1 h3 fun d pd => egs0 ⟨by show 3 ≤ 100000; omega, hp a b d pa pb pd⟩)
theorem eg_t2 {P P1 P2 : PyData → Prop} {t1 t2 : TE} (h1 : EvG t c t1 σ H P1) (h2 : EvG t c t2 σ H P2) (hp : ∀ a b, P1 a → P2 b → P (.tuple [a, b])) : EvG t c (tTup (tCons t1 (tCons t2 tNil))) σ H P :=
  eg_tup (egs1 h1 fun a pa => egs1 h2 fun b pb => egs0 ⟨by show 2 ≤ 100000; omega, hp a b pa pb⟩)
theorem eg_t1 {P P1 : PyData → Prop} {t1 : TE} (h1 : EvG t c t1 σ H P1) (hp : ∀ a, P1 a → P (.tuple [a])) : EvG t c (tTup (tCons t1 tNil)) σ H P :=
  eg_tup (egs1 h1 fun a pa => egs0 ⟨by show 1 ≤ 100000; omega, hp a pa⟩)
theorem eg_t4 {P P1 P2 P3 P4 : PyData → Prop} {t1 t2 t3 t4 : TE} (h1 : EvG t c t1 σ H P1) (h2 : EvG t c t2 σ H P2) (h3 : EvG t c t3 σ H P3) (h4 : EvG t c t4 σ H P4) (hp : ∀ a b d e, P1 a → P2 b → P3 d → P4 e → P (.tuple [a, b, d, e])) : EvG t c (tTup (tCons t1 (tCons t2 (tCons t3 (tCons t4 tNil))))) σ H P :=
  eg_tup (egs1 h1 fun a pa => egs1 h2 fun b pb => egs1 h3 fun d pd => egs1 h4 fun e pe => egs0 ⟨by show 4 ≤ 100000; omega, hp a b d e pa pb pd pe⟩)
theorem eg_is {te : TE} {d : PyData} (h : EvG t c te σ H fun x => x = d) {P : PyData → Prop} (hp : P d) : EvG t c te σ H P := h.w fun x e => e ▸ hp
end
section
variable {P : Program} {w : World} {K : PySem.W.Frag} {mg : Str → Option Value} {base : Heap}
theorem cal__law_operation (S : Src K mg "_law_operation" st__law_operation ["tape", "roots", "registers"]) (T : Txt K mg) (C__law_draw : Cal P w K mg base CX0 1 "_law_draw" ["tape", "many"] sp_draw) (C__law_pick : Cal P w K mg base CX0 2 "_law_pick" ["tape", "row"] sp_pick) : Cal P w K mg base CX0 3 "_law_operation" ["tape", "roots", "registers"] (SpG D_op) := by
  have sc := sc__law_operation
  refine S.cal (k := 2) sc (SpG.len fun ds P h => by obtain ⟨_, _, rfl, _⟩ := h; rfl) (fun f cdv A outer s H vs Q E hr h => ⟨_, (pss_cons (ps_set (i := 3) sc.nd rfl (by first | exact Or.inl rfl | exact Or.inr rfl) (pe_lst (pa_cons pe_str (pa_cons pe_str (pa_cons pe_str (pa_cons pe_str (pa_cons pe_str (pa_cons pe_str (pa_cons pe_str (pa_cons pe_str (pa_cons pe_str (pa_cons pe_str (pa_cons pe_str (pa_cons pe_str (pa_cons pe_str (pa_cons pe_str pa_nil))))))))))))))))
  (pss_cons (ps_set (i := 4) sc.nd rfl (by first | exact Or.inl rfl | exact Or.inr rfl) (pe_cal C__law_pick (hr.mono (by first | decide | omega)) rfl pass0 (pa_cons (pv 0) (pa_cons (pv 3) pa_nil))))
  (pss_cons (ps_par3 (i := 5) (j := 6) (l := 7) rfl sc.nd rfl rfl rfl (by decide) (by decide) (by decide) rfl rfl rfl (pa_cons (pe_cal C__law_draw (hr.mono (by first | decide | omega)) rfl pass0 (pa_cons (pv 0) (pa_cons (pv 2) pa_nil))) (pa_cons (pe_cal C__law_draw (hr.mono (by first | decide | omega)) rfl pass0 (pa_cons (pv 0) (pa_cons (pv 2) pa_nil))) (pa_cons (pe_cal C__law_pick (hr.mono (by first | decide | omega)) rfl pass0 (pa_cons (pv 0) (pa_cons (pe_lst (pa_cons pe_int (pa_cons pe_int (pa_cons pe_int (pa_cons pe_int (pa_cons pe_int (pa_cons pe_int pa_nil))))))) pa_nil))) pa_nil))) (by rfl))
  (pss_cons (ps_if (PW.pt (pw_and (pt_cmpR (k_in_seq (K := K) rfl) (pv 4) (pe_lst (pa_cons pe_str (pa_cons pe_str pa_nil))) (by rfl)) (pw_and1 (pt_cmpR op_eq (pv 1) pe_int (nomark _))))) (pss_one (ps_set (i := 4) sc.nd rfl (by first | exact Or.inl rfl | exact Or.inr rfl) pe_str)) pss_nil)
  (pss_cons (ps_if (pt_cmpR op_eq (pv 4) pe_str (nomark _)) (pss_one (ps_ret (pe_tup (pa_cons pe_str (pa_cons (pv 5) (pa_cons (pe_cal C__law_pick (hr.mono (by first | decide | omega)) rfl pass0 (pa_cons (pv 0) (pa_cons (pe_lst (pa_cons pe_int (pa_cons pe_int (pa_cons pe_int (pa_cons pe_int (pa_cons pe_int (pa_cons pe_int (pa_cons pe_int pa_nil)))))))) pa_nil))) pa_nil)))))) pss_nil)
  (pss_cons (ps_if (pt_cmpR op_eq (pv 4) pe_str (nomark _)) (pss_one (ps_ret (pe_tup (pa_cons pe_str (pa_cons (pv 5) (pa_cons (pv 7) pa_nil)))))) pss_nil)
  (pss_cons (ps_if (pt_cmpR op_eq (pv 4) pe_str (nomark _)) (pss_one (ps_ret (pe_tup (pa_cons pe_str (pa_cons (pv 5) (pa_cons (pv 7) (pa_cons (pe_cal C__law_pick (hr.mono (by first | decide | omega)) rfl pass0 (pa_cons (pv 0) (pa_cons (pe_lst (pa_cons pe_int (pa_cons pe_int (pa_cons pe_int (pa_cons (pe_un un_neg pe_int) (pa_cons pe_int (pa_cons (pe_op op_sub (pe_op op_pow pe_int pe_int) pe_int) (pa_cons (pe_op op_sub pe_int (pe_op op_pow pe_int pe_int)) pa_nil)))))))) pa_nil))) pa_nil))))))) pss_nil)
  (pss_cons (ps_if (pt_cmpR op_eq (pv 4) pe_str (nomark _)) (pss_one (ps_ret (pe_tup (pa_cons pe_str (pa_cons (pv 6) (pa_cons (pv 5) (pa_cons (pv 7) pa_nil))))))) pss_nil)
  (pss_cons (ps_if (pt_cmpR op_eq (pv 4) pe_str (nomark _)) (pss_one (ps_ret (pe_tup (pa_cons pe_str (pa_cons (pv 5) (pa_cons (pv 7) (pa_cons (pv 6) pa_nil))))))) pss_nil)
  (pss_cons (ps_if (pt_cmpR (k_in_seq (K := K) rfl) (pv 4) (pe_lst (pa_cons pe_str (pa_cons pe_str pa_nil))) (by rfl)) (pss_cons (ps_set (i := 8) sc.nd rfl (by first | exact Or.inl rfl | exact Or.inr rfl) (pe_cal C__law_draw (hr.mono (by first | decide | omega)) rfl pass0 (pa_cons (pv 0) (pa_cons (pv 1) pa_nil))))
  (pss_one (ps_ret (pe_ifExp (pt_cmpR op_eq (pv 4) pe_str (nomark _)) (pe_tup (pa_cons pe_str (pa_cons (pv 8) (pa_cons (pv 6) pa_nil)))) (pe_tup (pa_cons pe_str (pa_cons (pv 6) (pa_cons (pv 8) pa_nil)))))))) pss_nil)
  (pss_one (ps_ret (pe_ifExp (pt_cmpR (k_in_seq (K := K) rfl) (pv 4) (pe_lst (pa_cons pe_str (pa_cons pe_str pa_nil))) (by rfl)) (pe_tup (pa_cons (pv 4) (pa_cons (pv 5) pa_nil))) (pe_tup (pa_cons (pv 4) (pa_cons (pv 6) (pa_cons (pv 5) pa_nil))))))))))))))))), ?_⟩)
  obtain ⟨t, c, ws, ds, PP, rfl, T0, _, ims, ⟨R, G, rfl, hR, hG1, hG2, hP⟩, kk⟩ := h
  obtain ⟨v1, v2, rfl, i1, i2⟩ := ims.two
  cases i1.i; cases i2.i
  show tSeq (tAsg _ _) _ _ [some (.ref t), some (.int (R : Nat)), some (.int (G : Nat)), none, none, none, none, none, none] H
  refine q_asgN (ds := opW.map .str) (en_lst (ea1 (ed_s _) (ea1 (ed_s _) (ea1 (ed_s _) (ea1 (ed_s _) (ea1 (ed_s _) (ea1 (ed_s _) (ea1 (ed_s _) (ea1 (ed_s _) (ea1 (ed_s _) (ea1 (ed_s _) (ea1 (ed_s _) (ea1 (ed_s _) (ea1 (ed_s _) (ea1 (ed_s _) ea0)))))))))))))) (by show 14 ≤ 100000; omega)) ?_
  intro p xs H1 np e1 a1 b1
  have T1 := T0.ex e1
  show tSeq (tAsg _ _) _ _ [some (.ref t), some (.int (R : Nat)), some (.int (G : Nat)), some (.ref p), none, none, none, none, none] H1
  refine q_asgG (t := t) (c := c) T1 (eg_pickAt (it := 0) (P := StrIn opX) rfl (fun H2 g => ev_var rfl) (T0.notin np) a1 b1 (by decide +kernel) (by simp [opW]) (by simp [opW]) (fun d hd => ?_)) ?_
  · obtain ⟨s, hs, rfl⟩ := List.mem_map.mp hd
    exact ⟨s, opW_X s hs, rfl⟩
  rintro v d H2 g2 s2 ⟨wd, hwd, rfl⟩ iv
  cases iv.s
  have G2 := (Go.of T0 e1).trans g2
  show tSeq (tPar3 _ _ _ _) _ _ [some (.ref t), some (.int (R : Nat)), some (.int (G : Nat)), some (.ref p), some (.str wd), none, none, none, none] H2
  have dG : ∀ {σ : L2.St} {H3 : Hp}, σ[0]? = some (some (.ref t)) → σ[2]? = some (some (.int (G : Nat))) → EvG t c (tCall sp_draw [] E0 (tCons (tVar 0) (tCons (tVar 2) tNil))) σ H3 IntP := fun h0 h2 => eg_draw h0 (fun H1 g => ed_var h2 (.int _)) hG1 hG2 (fun r _ => ⟨_, rfl⟩)
  refine q_par3 ((egs1 (PP := fun ds => ∃ a b d : Int, ds = [.int a, .int b, .int d]) (dG rfl rfl) fun d1 p1 => egs1 (dG rfl rfl) fun d2 p2 => egs1 (eg_pick rfl (egs_some (P := IntP) (ig 0) (egs_n1 (ig 1) (egs_n1 (ig 0) (egs_n1 (ig 2) (egs_n1 (ig 1) (egs_n1 (ig 5) egs_n0))))) (by omega))) fun d3 p3 => egs0 ?_) H2 (Go.refl g2.2) _ ?_)
  · obtain ⟨a, rfl⟩ := p1
    obtain ⟨b, rfl⟩ := p2
    obtain ⟨d, rfl⟩ := p3
    exact ⟨a, b, d, rfl⟩
  rintro vs ds H3 g3 s3 ⟨r, q, k, rfl⟩ ivs
  obtain ⟨u1, u2, u3, rfl, j1, j2, j3⟩ := ivs.three
  cases j1.i; cases j2.i; cases j3.i
  refine ⟨_, _, _, rfl, ?_⟩
  have G3 := G2.trans g3
  show tSeq (tIfS _ _ _) _ _ [some (.ref t), some (.int (R : Nat)), some (.int (G : Nat)), some (.ref p), some (.str wd), some (.int r), some (.int q), some (.int k), none] H3
  refine q_whenAsgG (t := t) (c := c) (v0 := .str wd) (d0 := .str wd) (P := fun d => ∃ s, s ∈ opX ∧ ((s = "root" ∨ s = "take") → 1 ≤ R) ∧ d = .str s) (PB := fun b => b = (decide (wd ∈ (["root", "take"] : List Str)) && decide (R = 0))) g3.2
    (egt_d (fun H1 g => et_and (et_D (ed_inL (ed_var rfl (.str _)) ed_words2)) (fun _ => et_D (ed_eqI (a := (R : Int)) (b := 0) (ed_var rfl (.int _)) (ed_i 0)))) (by rw [show decide ((R : Int) = 0) = decide (R = 0) from decide_eq_decide.mpr (by omega)])) (fun _ => eg_s "get" ⟨"get", by decide +kernel, fun h => absurd h (by decide +kernel), rfl⟩) rfl (.str _) rfl (fun h => ⟨wd, hwd, fun hw => ?_, rfl⟩) ?_
  · have h' : (decide (wd ∈ (["root", "take"] : List Str)) && decide (R = 0)) = false := h.symm
    have hm : wd ∈ (["root", "take"] : List Str) := by rcases hw with rfl | rfl <;> simp
    rw [decide_eq_true hm, Bool.true_and] at h'
    have := of_decide_eq_false h'
    omega
  rintro v d H4 g4 s4 ⟨s, hs, hsR, rfl⟩ iv
  cases iv.s
  have G4 := G3.trans g4
  show tSeq (tIfS _ _ _) _ _ [some (.ref t), some (.int (R : Nat)), some (.int (G : Nat)), some (.ref p), some (.str s), some (.int r), some (.int q), some (.int k), none] H4
  have tst : ∀ (x : Str) {n8 : Option V} {H5 : Hp}, EvT (tTest (tOp rEq (tVar 4) (tC (.str x)))) [some (.ref t), some (.int (R : Nat)), some (.int (G : Nat)), some (.ref p), some (.str s), some (.int r), some (.int q), some (.int k), n8] H5 (decide (s = x)) := fun x => et_D (ed_eqS (ed_var rfl (.str _)) (ed_s x))
  have vi : ∀ {i : Nat} {n : Int} {σ : L2.St} {H5 : Hp}, σ[i]? = some (some (.int n)) → EvG t c (tVar i) σ H5 IntP := fun h => eg_d (fun H1 g => ed_var h (.int _)) rfl ⟨_, rfl⟩
  have stG : ∀ (x : Str) {σ : L2.St} {H5 : Hp}, EvG t c (tC (.str x)) σ H5 fun d => d = .str x := fun x => eg_s x rfl
  have fin : ∀ {te : TE} {σ : L2.St} {H5 : Hp}, Go t c H4 H5 → EvG t c te σ H5 PP → tRet te { nx := fun x H' => Q V.non H', rt := Q } σ H5 := fun g h => s_retG g.2 h fun v d H6 g6 s6 p6 iv => kk v d H6 ((G4.trans g).trans g6) s6 p6 iv
  have of3 : ∀ {x : Str}, (x, 2) ∈ opShapes → ∀ (a b d : PyData), a = .str x → IntP b → IntP d → PP (.tuple [a, b, d]) := by
    rintro x hx _ _ _ rfl ⟨b, rfl⟩ ⟨d, rfl⟩
    exact hP x [b, d] hx
  have of4 : ∀ {x : Str}, (x, 3) ∈ opShapes → ∀ (a b d e : PyData), a = .str x → IntP b → IntP d → IntP e → PP (.tuple [a, b, d, e]) := by
    rintro x hx _ _ _ _ rfl ⟨b, rfl⟩ ⟨d, rfl⟩ ⟨e, rfl⟩
    exact hP x [b, d, e] hx
  refine q_when (tst "put") (fun h H5 e5 => fin (Go.of G4.2 e5) (eg_t3 (stG _) (vi rfl) (eg_pick rfl (egs_some (P := IntP) (ig 1) (egs_n1 (ig 2) (egs_n1 (ig 3) (egs_n1 (ig 2) (egs_n1 (ig 1) (egs_n1 (ig 4) (egs_n1 (ig 9) egs_n0)))))) (by omega))) (of3 (by decide +kernel)))) ?_
  intro h1 H5 e5
  have g5 : Go t c H4 H5 := Go.of G4.2 e5
  refine q_when (tst "get") (fun h H6 e6 => fin (g5.ex e6) (eg_t3 (stG _) (vi rfl) (vi rfl) (of3 (by decide +kernel)))) ?_
  intro h2 H6 e6
  have g6 := g5.ex e6
  refine q_when (tst "set") (fun h H7 e7 => fin (g6.ex e7) (eg_t4 (stG _) (vi rfl) (vi rfl) (eg_pick rfl (egs_some (P := IntP) (ig 0) (egs_n1 (ig 1) (egs_n1 (ig 2) (egs_n1 ig_m1 (egs_n1 (ig 7) (egs_n1 ig_18m (egs_n1 ig_m18 egs_n0)))))) (by omega))) (of4 (by decide +kernel)))) ?_
  intro h3 H7 e7
  have g7 := g6.ex e7
  refine q_when (tst "load") (fun h H8 e8 => fin (g7.ex e8) (eg_t4 (stG _) (vi rfl) (vi rfl) (vi rfl) (of4 (by decide +kernel)))) ?_
  intro h4 H8 e8
  have g8 := g7.ex e8
  refine q_when (tst "store") (fun h H9 e9 => fin (g8.ex e9) (eg_t4 (stG _) (vi rfl) (vi rfl) (vi rfl) (of4 (by decide +kernel)))) ?_
  intro h5 H9 e9
  have g9 := g8.ex e9
  refine q_when (b := decide (s ∈ (["root", "take"] : List Str))) (et_D (ed_inL (ed_var rfl (.str _)) ed_words2)) ?_ ?_
  · intro h HA eA
    have gA := g9.ex eA
    have hR1 : 1 ≤ R := hsR (by simpa using of_decide_eq_true h)
    refine q_asgG (t := t) (c := c) gA.2 (eg_draw (it := 0) (m := R) (P := IntP) rfl (fun H1 g => ed_var rfl (.int _)) hR1 hR (fun r _ => ⟨_, rfl⟩)) ?_
    rintro v d HB gB sB ⟨i, rfl⟩ iv
    cases iv.i
    refine fin (gA.trans gB) (eg_if (PB := fun _ => True) (egt_d (fun H1 g => et_D (ed_eqS (ed_var rfl (.str _)) (ed_s _))) trivial) (fun _ => eg_t3 (stG _) (vi rfl) (vi rfl) (of3 (by decide +kernel))) (fun _ => eg_t3 (stG _) (vi rfl) (vi rfl) (of3 (by decide +kernel))))
  · intro h6 HA eA
    have gA := g9.ex eA
    have n1 := of_decide_eq_false h1
    have n2 := of_decide_eq_false h2
    have n3 := of_decide_eq_false h3
    have n4 := of_decide_eq_false h4
    have n5 := of_decide_eq_false h5
    have n6 := of_decide_eq_false h6
    have svG : ∀ {σ : L2.St} {H5 : Hp}, σ[4]? = some (some (.str s)) → EvG t c (tVar 4) σ H5 fun d => d = .str s := fun h => eg_d (fun H1 g => ed_var h (.str _)) rfl rfl
    refine fin gA (eg_if (PB := fun b => b = decide (s ∈ (["drop", "size"] : List Str))) (egt_d (fun H1 g => et_D (ed_inL (ed_var rfl (.str _)) ed_words2)) rfl) (fun hb => eg_t2 (svG rfl) (vi rfl) ?_) (fun hb => eg_t3 (svG rfl) (vi rfl) (vi rfl) ?_))
    · rintro _ _ rfl ⟨b, rfl⟩
      refine hP s [b] ?_
      have hm : s ∈ (["drop", "size"] : List Str) := of_decide_eq_true hb.symm
      show (s, 1) ∈ opShapes
      rcases List.mem_cons.mp hm with rfl | hm
      · decide +kernel
      · cases List.mem_singleton.mp hm
        decide +kernel
    · refine of3 ?_
      have hm : s ∉ (["drop", "size"] : List Str) := of_decide_eq_false hb.symm
      simp only [opX, List.mem_cons, List.not_mem_nil, or_false, not_or] at hs n6 hm
      rcases hs with rfl | rfl | rfl | rfl | rfl | rfl | rfl | rfl | rfl | rfl | rfl <;> first | exact absurd rfl n1 | exact absurd rfl n2 | exact absurd rfl n3 | exact absurd rfl n4 | exact absurd rfl n5 | exact absurd rfl n6.1 | exact absurd rfl n6.2 | exact absurd rfl hm.1 | exact absurd rfl hm.2 | decide +kernel
end
end K97
set_option Elab.async false
set_option linter.all false
set_option maxRecDepth 100000
set_option maxHeartbeats 4000000
namespace K97
open PySem PySem.Spec PyProof.Rows L2 Evl Pd
abbrev eShape (a b : Int) (R G : Nat) (e : Int) : PyData := .tuple [.int a, .int b, .int (R : Nat), .int (G : Nat), .int e]
def D_shape (ds : List PyData) (P : PyData → Prop) : Prop := ds = [] ∧ ∀ (a b : Int) (R G : Nat) (e : Int), R ≤ 1000 → 1 ≤ G → G ≤ 1000 → P (eShape a b R G e)
def TstW : Tst → Prop
  | .ans w => PyData.strOk w = true
  | .nt t => TstW t
  | _ => True
def D_test (n : Nat) (ds : List PyData) (P : PyData → Prop) : Prop := ∃ cnt dep : Nat, ds = [.int (cnt : Nat), .int (dep : Nat)] ∧ dep ≤ n ∧ cnt ≤ 1000 ∧ ∀ t : Tst, t.deep ≤ dep → TstOk cnt t → TstW t → P (eTst t)
def D_row (ds : List PyData) (P : PyData → Prop) : Prop := ∃ (a b : Int) (R G : Nat) (e : Int) (cnt : Nat), ds = [eShape a b R G e, .int (cnt : Nat)] ∧ R ≤ 1000 ∧ 1 ≤ G ∧ G ≤ 1000 ∧ cnt ≤ 1000 ∧ ∀ o, OpTOk cnt o → P (eStm (.do_ o))
def kindsT : List Str := ["answer", "true", "less", "is", "not", "answer"]
theorem ansW : ∀ s ∈ (["ok", "none", "range", "full", "value", "same", "size", "ok"] : List Str), PyData.strOk s = true := by decide +kernel
section
variable {K : PySem.W.Frag} {σ : L2.St} {H : Hp} {t c : Addr}
/-- a written list of texts, one picked -/
theorem egs_strs {L : List Str} {ta : TA} (h : ∀ H1, Go t c H H1 → EvDs ta σ H1 (L.map .str)) (hn : L ≠ []) (hl : L.length ≤ 500) : EvGs t c ta σ H fun ds => ds ≠ [] ∧ ds.length ≤ 1000 ∧ ∀ d ∈ ds, StrIn L d := fun H1 g Q q =>
  h H1 g H1 (Ex.refl H1) _ fun vs H2 e iv => q vs _ H2 (Go.of g.2 e) (stills_ofm fun d hd => by obtain ⟨s, _, rfl⟩ := List.mem_map.mp hd; rfl) ⟨by simpa using hn, by rw [List.length_map]; omega, fun d hd => by
    obtain ⟨s, hs, rfl⟩ := List.mem_map.mp hd
    exact ⟨s, hs, rfl⟩⟩ iv
theorem eg_vs {i : Nat} {s : Str} {P : PyData → Prop} (h : σ[i]? = some (some (.str s))) (hp : P (.str s)) : EvG t c (tVar i) σ H P := eg_d (fun H1 g => ed_var h (.str _)) rfl hp
theorem eg_vi {i : Nat} {n : Int} {P : PyData → Prop} (h : σ[i]? = some (some (.int n))) (hp : P (.int n)) : EvG t c (tVar i) σ H P := eg_d (fun H1 g => ed_var h (.int _)) rfl hp
/-- a draw below a number that stands in a slot -/
theorem eg_drawV {m : Nat} {j : Nat} {P : PyData → Prop} (h0 : σ[0]? = some (some (.ref t))) (h2 : σ[j]? = some (some (.int (m : Nat)))) (h1 : 1 ≤ m) (hl : m ≤ 1000) (hp : ∀ r : Nat, r < m → P (.int (r : Nat))) : EvG t c (tCall sp_draw [] E0 (tCons (tVar 0) (tCons (tVar j) tNil))) σ H P := eg_draw h0 (fun H1 g => ed_var h2 (.int _)) h1 hl hp
theorem eg_drawC {m : Nat} {P : PyData → Prop} (h0 : σ[0]? = some (some (.ref t))) (h1 : 1 ≤ m) (hl : m ≤ 1000) (hp : ∀ r : Nat, r < m → P (.int (r : Nat))) : EvG t c (tCall sp_draw [] E0 (tCons (tVar 0) (tCons (tC (.int (m : Nat))) tNil))) σ H P := eg_draw h0 (fun H1 g => ed_i _) h1 hl hp
theorem eg_more {m : Nat} {n : Nat} {P : PyData → Prop} (h0 : σ[0]? = some (some (.ref t))) (h1 : 1 ≤ m) (hl : m ≤ 1000) (hp : ∀ r : Nat, r < m → P (.int ((n + r : Nat) : Int))) : EvG t c (tOp (rI0 fun i j => .int (i + j)) (tC (.int (n : Nat))) (tCall sp_draw [] E0 (tCons (tVar 0) (tCons (tC (.int (m : Nat))) tNil)))) σ H P :=
  eg_I0 (gg := fun i j => i + j) (PA := fun i => i = (n : Int)) (PB := fun j => ∃ r : Nat, r < m ∧ j = (r : Int)) (eg_i _ ⟨_, rfl, rfl⟩) (eg_drawC h0 h1 hl fun r hr => ⟨_, rfl, r, hr, rfl⟩) (fun i j hi ⟨r, hr, hj⟩ => by
    have := hp r hr
    subst hi hj
    have e : ((n + r : Nat) : Int) = (n : Int) + (r : Int) := by omega
    rw [e] at this
    exact this)
end
section
variable {P : Program} {w : World} {K : PySem.W.Frag} {mg : Str → Option Value} {base : Heap}
theorem cal__law_shape (S : Src K mg "_law_shape" st__law_shape ["tape"]) (T : Txt K mg) (C__law_draw : Cal P w K mg base CX0 1 "_law_draw" ["tape", "many"] sp_draw) : Cal P w K mg base CX0 2 "_law_shape" ["tape"] (SpG D_shape) := by
  have sc := sc__law_shape
  refine S.cal (k := 1) sc (SpG.len fun ds P h => by obtain ⟨rfl, _⟩ := h; rfl) (fun f cdv A outer s H vs Q E hr h => ⟨_, (pss_one (ps_ret (pe_tup (pa_cons (pe_op op_add pe_int (pe_cal C__law_draw (hr.mono (by first | decide | omega)) rfl pass0 (pa_cons (pv 0) (pa_cons pe_int pa_nil)))) (pa_cons (pe_op op_add pe_int (pe_cal C__law_draw (hr.mono (by first | decide | omega)) rfl pass0 (pa_cons (pv 0) (pa_cons pe_int pa_nil)))) (pa_cons (pe_cal C__law_draw (hr.mono (by first | decide | omega)) rfl pass0 (pa_cons (pv 0) (pa_cons pe_int pa_nil))) (pa_cons (pe_op op_add pe_int (pe_cal C__law_draw (hr.mono (by first | decide | omega)) rfl pass0 (pa_cons (pv 0) (pa_cons pe_int pa_nil)))) (pa_cons (pe_op op_add pe_int (pe_cal C__law_draw (hr.mono (by first | decide | omega)) rfl pass0 (pa_cons (pv 0) (pa_cons pe_int pa_nil)))) pa_nil)))))))), ?_⟩)
  obtain ⟨t, c, ws, ds, PP, rfl, T0, _, ims, ⟨rfl, hP⟩, kk⟩ := h
  cases ims
  refine s_retG (P := PP) (t := t) (c := c) T0 (eg_tup (egs1 (eg_more (n := 3) (m := 9) (P := IntP) rfl (by omega) (by omega) fun r _ => ⟨_, rfl⟩) fun a pa => egs1 (eg_more (n := 1) (m := 4) (P := IntP) rfl (by omega) (by omega) fun r _ => ⟨_, rfl⟩) fun b pb =>
    egs1 (eg_drawC (m := 3) (P := fun d => ∃ R : Nat, R ≤ 1000 ∧ d = .int (R : Nat)) rfl (by omega) (by omega) fun r _ => ⟨r, by omega, rfl⟩) fun d3 p3 =>
    egs1 (eg_more (n := 1) (m := 3) (P := fun d => ∃ G : Nat, (1 ≤ G ∧ G ≤ 1000) ∧ d = .int (G : Nat)) rfl (by omega) (by omega) fun r _ => ⟨1 + r, ⟨by omega, by omega⟩, rfl⟩) fun d4 p4 =>
    egs1 (eg_more (n := 1) (m := 3) (P := IntP) rfl (by omega) (by omega) fun r _ => ⟨_, rfl⟩) fun d5 p5 => egs0 ⟨by show 5 ≤ 100000; omega, ?_⟩)) fun v d H1 g s p iv => kk v d H1 g s p iv
  obtain ⟨a, rfl⟩ := pa
  obtain ⟨b, rfl⟩ := pb
  obtain ⟨R, hR, rfl⟩ := p3
  obtain ⟨G, ⟨h1, h2⟩, rfl⟩ := p4
  obtain ⟨e, rfl⟩ := p5
  exact hP a b R G e hR h1 h2
theorem test_step (S : Src K mg "_law_test" st__law_test ["tape", "count", "depth"]) (T : Txt K mg) (C__law_draw : Cal P w K mg base CX0 1 "_law_draw" ["tape", "many"] sp_draw) (C__law_pick : Cal P w K mg base CX0 2 "_law_pick" ["tape", "row"] sp_pick) {k n : Nat} {sp : Sp} (hk : 2 ≤ k) (C__law_test : Cal P w K mg base CX0 k "_law_test" ["tape", "count", "depth"] sp) (hn : ∀ m, n = m + 1 → sp = SpG (D_test m)) : Cal P w K mg base CX0 (k + 1) "_law_test" ["tape", "count", "depth"] (SpG (D_test n)) := by
  have sc := sc__law_test
  refine S.cal (k := k) sc (SpG.len fun ds P h => by obtain ⟨_, _, rfl, _⟩ := h; rfl) (fun f cdv A outer s H vs Q E hr h => ⟨_, (pss_cons (ps_set (i := 3) sc.nd rfl (by first | exact Or.inl rfl | exact Or.inr rfl) (pe_cal C__law_pick (hr.mono (by first | decide | omega)) rfl pass0 (pa_cons (pv 0) (pa_cons (pe_lst (pa_cons pe_str (pa_cons pe_str (pa_cons pe_str (pa_cons pe_str (pa_cons pe_str (pa_cons pe_str pa_nil))))))) pa_nil))))
  (pss_cons (ps_if (PW.pt (pw_and (pt_cmpR op_eq (pv 3) pe_str (nomark _)) (pw_and1 (pt_cmpR op_gt (pv 2) pe_int (nomark _))))) (pss_one (ps_ret (pe_tup (pa_cons pe_str (pa_cons (pe_cal C__law_test (hr.mono (by first | decide | omega)) rfl pass0 (pa_cons (pv 0) (pa_cons (pv 1) (pa_cons (pe_op op_sub (pv 2) pe_int) pa_nil)))) pa_nil))))) pss_nil)
  (pss_cons (ps_if (PW.pt (pw_and (pt_cmpR (k_in_seq (K := K) rfl) (pv 3) (pe_lst (pa_cons pe_str (pa_cons pe_str pa_nil))) (by rfl)) (pw_and1 (pt_cmpR op_gt (pv 1) pe_int (nomark _))))) (pss_one (ps_ret (pe_tup (pa_cons (pv 3) (pa_cons (pe_cal C__law_draw (hr.mono (by first | decide | omega)) rfl pass0 (pa_cons (pv 0) (pa_cons (pv 1) pa_nil))) (pa_cons (pe_cal C__law_pick (hr.mono (by first | decide | omega)) rfl pass0 (pa_cons (pv 0) (pa_cons (pe_lst (pa_cons pe_int (pa_cons pe_int (pa_cons pe_int (pa_cons pe_int (pa_cons (pe_un un_neg pe_int) (pa_cons (pe_op op_sub (pe_op op_pow pe_int pe_int) pe_int) pa_nil))))))) pa_nil))) pa_nil)))))) pss_nil)
  (pss_cons (ps_if (pt_cmpR op_eq (pv 3) pe_str (nomark _)) (pss_one (ps_ret (pe_tup (pa_cons pe_str pa_nil)))) pss_nil)
  (pss_one (ps_ret (pe_tup (pa_cons pe_str (pa_cons (pe_cal C__law_pick (hr.mono (by first | decide | omega)) rfl pass0 (pa_cons (pv 0) (pa_cons (pe_lst (pa_cons pe_str (pa_cons pe_str (pa_cons pe_str (pa_cons pe_str (pa_cons pe_str (pa_cons pe_str (pa_cons pe_str (pa_cons pe_str pa_nil))))))))) pa_nil))) pa_nil))))))))), ?_⟩)
  obtain ⟨t, c, ws, ds, PP, rfl, T0, _, ims, ⟨cnt, dep, rfl, hd, hc, hP⟩, kk⟩ := h
  obtain ⟨v1, v2, rfl, i1, i2⟩ := ims.two
  cases i1.i; cases i2.i
  show tSeq (tAsg _ _) _ _ [some (.ref t), some (.int (cnt : Nat)), some (.int (dep : Nat)), none] H
  refine q_asgG (t := t) (c := c) T0 (eg_pick (P := StrIn kindsT) (it := 0) rfl (egs_strs (L := kindsT) (fun H1 g => ea1 (ed_s _) (ea1 (ed_s _) (ea1 (ed_s _) (ea1 (ed_s _) (ea1 (ed_s _) (ea1 (ed_s _) ea0)))))) (by simp [kindsT]) (by simp [kindsT]))) ?_
  rintro v d H1 g1 s1 ⟨s, hs, rfl⟩ iv
  cases iv.s
  show tSeq (tIfS _ _ _) _ _ [some (.ref t), some (.int (cnt : Nat)), some (.int (dep : Nat)), some (.str s)] H1
  have fin : ∀ {te : TE} {σ : L2.St} {H5 : Hp}, Go t c H1 H5 → EvG t c te σ H5 PP → tRet te { nx := fun x H' => Q V.non H', rt := Q } σ H5 := fun g h => s_retG g.2 h fun v d H6 g6 s6 p6 iv => kk v d H6 ((g1.trans g).trans g6) s6 p6 iv
  refine q_when (b := decide (s = "not") && decide (0 < dep)) (et_is (et_and (et_D (ed_eqS (ed_var rfl (.str _)) (ed_s _))) (fun _ => et_D (ed_B0 (g := fun i j => decide (j < i)) (ed_var rfl (.int _)) (ed_i 0)))) (by rw [show decide ((0 : Int) < (dep : Int)) = decide (0 < dep) from decide_eq_decide.mpr (by omega)])) ?_ ?_
  · intro h H2 e2
    simp only [Bool.and_eq_true, decide_eq_true_eq] at h
    obtain ⟨m, rfl⟩ : ∃ m, n = m + 1 := ⟨n - 1, by omega⟩
    have esp := hn m rfl
    subst esp
    refine fin (Go.of g1.2 e2) (eg_t2 (P1 := fun d => d = .str "not") (P2 := fun d => ∃ t : Tst, (t.deep + 1 ≤ dep ∧ TstOk cnt t ∧ TstW t) ∧ d = eTst t) (eg_s _ rfl) (eg_call rfl (egs1 (P := fun d => d = .int (cnt : Nat)) (eg_vi rfl rfl) fun d1 p1 => egs1 (P := fun d => d = .int ((dep - 1 : Nat) : Int)) (eg_d (d := .int ((dep : Int) - 1)) (fun H3 g3 => ed_I0 (g := fun i j => i - j) (ed_var rfl (.int _)) (ed_i 1)) rfl (by congr 1; omega)) fun d2 p2 => egs0 ?_)) ?_)
    · subst p1; subst p2
      exact ⟨cnt, dep - 1, rfl, by omega, hc, fun t h1 h2 h3 => ⟨t, ⟨by omega, h2, h3⟩, rfl⟩⟩
    · rintro _ _ rfl ⟨t, ⟨h1, h2, h3⟩, rfl⟩
      exact hP (.nt t) h1 h2 h3
  intro _ H2 e2
  have g2 : Go t c H1 H2 := Go.of g1.2 e2
  refine q_when (b := decide (s ∈ (["less", "is"] : List Str)) && decide (0 < cnt)) (et_is (et_and (et_D (ed_inL (ed_var rfl (.str _)) ed_words2)) (fun _ => et_D (ed_B0 (g := fun i j => decide (j < i)) (ed_var rfl (.int _)) (ed_i 0)))) (by rw [show decide ((0 : Int) < (cnt : Int)) = decide (0 < cnt) from decide_eq_decide.mpr (by omega)])) ?_ ?_
  · intro h H3 e3
    simp only [Bool.and_eq_true, decide_eq_true_eq] at h
    refine fin (g2.ex e3) (eg_t3 (P1 := fun d => d = .str s) (P2 := fun d => ∃ i : Nat, i < cnt ∧ d = .int (i : Nat)) (P3 := IntP) (eg_vs rfl rfl) (eg_drawV rfl rfl (by omega) hc fun r hr => ⟨r, hr, rfl⟩) (eg_pick rfl (egs_some (P := IntP) (ig 0) (egs_n1 (ig 1) (egs_n1 (ig 2) (egs_n1 (ig 3) (egs_n1 ig_m1 (egs_n1 ig_18m egs_n0))))) (by omega))) ?_)
    rintro _ _ _ rfl ⟨i, hi, rfl⟩ ⟨q, rfl⟩
    rcases List.mem_cons.mp h.1 with rfl | hm
    · exact hP (.less i q) (Nat.zero_le _) hi trivial
    · cases List.mem_singleton.mp hm
      exact hP (.is i q) (Nat.zero_le _) hi trivial
  intro _ H3 e3
  have g3 := g2.ex e3
  refine q_when (et_D (ed_eqS (ed_var rfl (.str _)) (ed_s _))) (fun h H4 e4 => fin (g3.ex e4) (eg_t1 (P1 := fun d => d = .str "true") (eg_s _ rfl) ?_)) ?_
  · rintro _ rfl
    exact hP .tru (Nat.zero_le _) trivial trivial
  intro _ H4 e4
  refine fin (g3.ex e4) (eg_t2 (P1 := fun d => d = .str "answer") (P2 := StrIn ["ok", "none", "range", "full", "value", "same", "size", "ok"]) (eg_s _ rfl) (eg_pick rfl (egs_strs (fun H5 g => ea1 (ed_s _) (ea1 (ed_s _) (ea1 (ed_s _) (ea1 (ed_s _) (ea1 (ed_s _) (ea1 (ed_s _) (ea1 (ed_s _) (ea1 (ed_s _) ea0)))))))) (by simp) (by simp))) ?_)
  rintro _ _ rfl ⟨u, hu, rfl⟩
  exact hP (.ans u) (Nat.zero_le _) trivial (ansW u hu)
theorem cal__law_test (S : Src K mg "_law_test" st__law_test ["tape", "count", "depth"]) (T : Txt K mg) (C__law_draw : Cal P w K mg base CX0 1 "_law_draw" ["tape", "many"] sp_draw) (C__law_pick : Cal P w K mg base CX0 2 "_law_pick" ["tape", "row"] sp_pick) : ∀ n, Cal P w K mg base CX0 (n + 3) "_law_test" ["tape", "count", "depth"] (SpG (D_test n))
  | 0 => test_step S T C__law_draw C__law_pick (k := 2) (sp := fun _ _ _ _ => False) (by omega) (cal_false S) (fun m h => by omega)
  | n + 1 => test_step S T C__law_draw C__law_pick (k := n + 3) (by omega) (cal__law_test S T C__law_draw C__law_pick n) (fun m h => by
      have : n = m := by omega
      rw [this])
theorem cal__law_do_row (S : Src K mg "_law_do_row" st__law_do_row ["tape", "shape", "count"]) (T : Txt K mg) (C__law_draw : Cal P w K mg base CX0 1 "_law_draw" ["tape", "many"] sp_draw) (C__law_operation : Cal P w K mg base CX0 3 "_law_operation" ["tape", "roots", "registers"] (SpG D_op)) : Cal P w K mg base CX0 4 "_law_do_row" ["tape", "shape", "count"] (SpG D_row) := by
  have sc := sc__law_do_row
  refine S.cal (k := 3) sc (SpG.len fun ds P h => by obtain ⟨_, _, _, _, _, _, rfl, _⟩ := h; rfl) (fun f cdv A outer s H vs Q E hr h => ⟨_, (pss_cons (ps_set (i := 3) sc.nd rfl (by first | exact Or.inl rfl | exact Or.inr rfl) (pe_cal C__law_operation (hr.mono (by first | decide | omega)) rfl pass0 (pa_cons (pv 0) (pa_cons (pe_ix (k_ix_tup (K := K) rfl) (pv 1) pe_int (fun _ _ => rfl)) (pa_cons (pe_ix (k_ix_tup (K := K) rfl) (pv 1) pe_int (fun _ _ => rfl)) pa_nil)))))
  (pss_cons (ps_if (PW.pt (pw_and (pt_cmpR op_eq (pe_ix (k_ix_tup (K := K) rfl) (pv 3) pe_int (fun _ _ => rfl)) pe_str (nomark _)) (pw_and (pt_cmpR op_gt (pv 2) pe_int (nomark _)) (pw_and1 (pt_cmpR op_eq (pe_cal C__law_draw (hr.mono (by first | decide | omega)) rfl pass0 (pa_cons (pv 0) (pa_cons pe_int pa_nil))) pe_int (nomark _)))))) (pss_one (ps_set (i := 3) sc.nd rfl (by first | exact Or.inl rfl | exact Or.inr rfl) (pe_op (k_catA (K := K) rfl) (pe_slice (k_sl_tupA (K := K) rfl) (pv 3) po_none (po_some pe_int)) (pe_tup (pa_cons (pe_tup (pa_cons pe_str (pa_cons (pe_cal C__law_draw (hr.mono (by first | decide | omega)) rfl pass0 (pa_cons (pv 0) (pa_cons (pv 2) pa_nil))) pa_nil))) pa_nil))))) pss_nil)
  (pss_one (ps_ret (pe_tup (pa_cons pe_str (pa_cons (pv 3) pa_nil))))))), ?_⟩)
  obtain ⟨t, c, ws, ds, PP, rfl, T0, sst, ims, ⟨a, b, R, G, e, cnt, rfl, hR, hG1, hG2, hc, hP⟩, kk⟩ := h
  obtain ⟨v1, v2, rfl, i1, i2⟩ := ims.two
  cases i2.i
  have ss : still (eShape a b R G e) = true := rfl
  have vsh : ∀ {σ : L2.St} {H1 : Hp}, σ[1]? = some (some v1) → Go t c H H1 → EvD (tVar 1) σ H1 (eShape a b R G e) := fun h g => ed_var h (g.im ss i1)
  show tSeq (tAsg _ _) _ _ [some (.ref t), some v1, some (.int (cnt : Nat)), none] H
  refine q_asgG (t := t) (c := c) T0 (eg_call (P := fun d => ∃ w ns, (w, ns.length) ∈ opShapes ∧ d = eOpT (.plain w ns)) rfl (egs1 (P := fun d => d = .int (R : Nat)) (eg_d (fun H1 g => ed_ixT (vsh rfl g) (ed_i 2) rfl) rfl rfl) fun d1 p1 => egs1 (P := fun d => d = .int (G : Nat)) (eg_d (fun H1 g => ed_ixT (vsh rfl g) (ed_i 3) rfl) rfl rfl) fun d2 p2 => egs0 ?_)) ?_
  · subst p1; subst p2
    exact ⟨R, G, rfl, hR, hG1, hG2, fun w ns h => ⟨w, ns, h, rfl⟩⟩
  rintro v d H1 g1 s1 ⟨w, ns, hw, rfl⟩ iv
  show tSeq (tIfS _ _ _) _ _ [some (.ref t), some v1, some (.int (cnt : Nat)), some v] H1
  refine q_whenAsgG (t := t) (c := c) (v0 := v) (P := fun d => ∃ o, OpTOk cnt o ∧ d = eOpT o) (PB := fun b => b = true → w = "set" ∧ 1 ≤ cnt) g1.2
    (egt_and (PA := fun b => b = decide (w = "set")) (PB := fun b => b = true → 1 ≤ cnt) (egt_d (fun H2 g => et_D (ed_eqS (ed_ixT (ed_var rfl (g.im s1 iv)) (ed_i 0) (atI_nat (j := 0) rfl)) (ed_s _))) rfl) (fun hb => egt_and (PA := fun b => b = decide ((0 : Int) < (cnt : Int))) (PB := fun _ => True) (egt_d (fun H2 g => et_D (ed_B0 (g := fun i j => decide (j < i)) (ed_var rfl (.int _)) (ed_i 0))) rfl) (fun _ => egt_test (eg_eqI (PA := fun _ => True) (PB := fun _ => True) (eg_drawC (m := 2) rfl (by omega) (by omega) fun r _ => ⟨_, rfl, trivial⟩) (eg_i 0 ⟨_, rfl, trivial⟩) fun i j _ _ => ⟨_, rfl, trivial⟩)) (fun h z => by cases z) (fun b h _ _ => by have := of_decide_eq_true h.symm; omega)) (fun h z => by cases z) (fun b h h2 h3 => ⟨of_decide_eq_true h.symm, h2 h3⟩))
    ?_ rfl iv s1 (fun _ => ⟨.plain w ns, hw, rfl⟩) ?_
  · intro hb
    obtain ⟨rfl, hc1⟩ := hb rfl
    have hl : ns.length = 3 := plain_set (c := 0) hw rfl
    obtain ⟨n1, n2, n3, rfl⟩ : ∃ a b c, ns = [a, b, c] := by
      match ns, hl with
      | [a, b, c], _ => exact ⟨a, b, c, rfl⟩
    refine eg_catA (PA := fun ds => ds = [.str "set", .int n1, .int n2]) (PB := fun ds => ∃ i : Nat, i < cnt ∧ ds = [.tuple [.str "counter", .int (i : Nat)]]) (eg_d (fun H2 g => EvD.is (ed_slA (ed_var rfl (g.im s1 iv)) eo_none (eo_i (ed_i 3))) rfl) rfl ⟨_, rfl, rfl⟩) (eg_t1 (P1 := fun d => ∃ i : Nat, i < cnt ∧ d = .tuple [.str "counter", .int (i : Nat)]) (eg_t2 (P1 := fun d => d = .str "counter") (P2 := fun d => ∃ i : Nat, i < cnt ∧ d = .int (i : Nat)) (eg_s _ rfl) (eg_drawV rfl rfl hc1 hc fun r hr => ⟨r, hr, rfl⟩) ?_) ?_) ?_
    · rintro _ _ rfl ⟨i, hi, rfl⟩
      exact ⟨i, hi, rfl⟩
    · rintro _ ⟨i, hi, rfl⟩
      exact ⟨_, rfl, i, hi, rfl⟩
    · rintro _ _ rfl ⟨i, hi, rfl⟩
      exact ⟨by show 3 + 1 ≤ 100000; omega, .setc n1 n2 i, hi, rfl⟩
  rintro v3 d3 H3 g3 s3 ⟨o, ho, rfl⟩ iv3
  refine s_retG (P := PP) g3.2 (eg_t2 (P1 := fun d => d = .str "do") (P2 := fun d => d = eOpT o) (eg_s _ rfl) (eg_var rfl iv3 s3 rfl) ?_) fun v d H4 g4 s4 p4 iv4 => kk v d H4 ((g1.trans g3).trans g4) s4 p4 iv4
  rintro _ _ rfl rfl
  have := hP o ho
  rw [eStm] at this
  exact this
end
end K97
set_option Elab.async false
set_option linter.all false
set_option maxRecDepth 100000
set_option maxHeartbeats 4000000
namespace K97
open PySem PySem.Spec PyProof.Rows L2 Evl Pd
def D_block (n : Nat) (ds : List PyData) (P : PyData → Prop) : Prop := ∃ (a b : Int) (R G : Nat) (e : Int) (cnt dep many : Nat), ds = [eShape a b R G e, .int (cnt : Nat), .int (dep : Nat), .int (many : Nat)] ∧ R ≤ 1000 ∧ 1 ≤ G ∧ G ≤ 1000 ∧ cnt ≤ 1000 ∧ dep ≤ n ∧ 1 ≤ many ∧ many ≤ 10 ∧
  ∀ bl, BlkOk cnt bl → Fit (4 * dep + 4) (eBlk bl) → bl.length ≤ 10 → P (eBlk bl)
theorem fit_str {n : Nat} {s : Str} (h : PyData.strOk s = true) : Fit n (.str s) := ⟨by rw [PyData.canLay0]; exact h, by rw [PyData.depth]; omega⟩
theorem fit_tst : ∀ t : Tst, TstW t → Fit (t.deep + 1) (eTst t)
  | .ans w, h => fit_tup.mpr (by
      intro d hd
      simp only [List.mem_cons, List.not_mem_nil, or_false] at hd
      rcases hd with rfl | rfl
      · exact fit_str (by decide +kernel)
      · exact fit_str h)
  | .tru, _ => fit_tup.mpr (by
      intro d hd
      cases List.mem_singleton.mp hd
      exact fit_str (by decide +kernel))
  | .less i n, _ => fit_tup.mpr (by
      intro d hd
      simp only [List.mem_cons, List.not_mem_nil, or_false] at hd
      rcases hd with rfl | rfl | rfl
      · exact fit_str (by decide +kernel)
      · exact fit_int _ _
      · exact fit_int _ _)
  | .is i n, _ => fit_tup.mpr (by
      intro d hd
      simp only [List.mem_cons, List.not_mem_nil, or_false] at hd
      rcases hd with rfl | rfl | rfl
      · exact fit_str (by decide +kernel)
      · exact fit_int _ _
      · exact fit_int _ _)
  | .nt t, h => by
      rw [eTst]
      refine fit_tup.mpr fun d hd => ?_
      simp only [List.mem_cons, List.not_mem_nil, or_false] at hd
      rcases hd with rfl | rfl
      · exact fit_str (by decide +kernel)
      · exact (fit_tst t h).le (Nat.le_refl _)
theorem fit_op {c : Nat} {o : OpT} (h : OpTOk c o) : Fit 2 (eOpT o) := by
  cases o with
  | plain w ns =>
    refine fit_tup.mpr fun d hd => ?_
    rcases List.mem_cons.mp hd with rfl | hd
    · exact fit_str (plain_ok h)
    · obtain ⟨i, _, rfl⟩ := List.mem_map.mp hd
      exact fit_int _ _
  | setc r k i =>
    refine fit_tup.mpr fun d hd => ?_
    simp only [List.mem_cons, List.not_mem_nil, or_false] at hd
    rcases hd with rfl | rfl | rfl | rfl
    · exact fit_str (by decide +kernel)
    · exact fit_int _ _
    · exact fit_int _ _
    · refine fit_tup.mpr fun d hd => ?_
      simp only [List.mem_cons, List.not_mem_nil, or_false] at hd
      rcases hd with rfl | rfl
      · exact fit_str (by decide +kernel)
      · exact fit_int _ _
theorem fit_do {c : Nat} {o : OpT} (h : OpTOk c o) : Fit 3 (eStm (.do_ o)) := by
  rw [eStm]
  refine fit_tup.mpr fun d hd => ?_
  simp only [List.mem_cons, List.not_mem_nil, or_false] at hd
  rcases hd with rfl | rfl
  · exact fit_str (by decide +kernel)
  · exact fit_op h
theorem fit_add {i : Nat} {n : Int} : Fit 3 (eStm (.add i n)) := by
  rw [eStm]
  refine fit_tup.mpr fun d hd => ?_
  simp only [List.mem_cons, List.not_mem_nil, or_false] at hd
  rcases hd with rfl | rfl | rfl
  · exact fit_str (by decide +kernel)
  · exact fit_int _ _
  · exact fit_int _ _
theorem fit_keep {i : Nat} : Fit 3 (eStm (.keep i)) := by
  rw [eStm]
  refine fit_tup.mpr fun d hd => ?_
  simp only [List.mem_cons, List.not_mem_nil, or_false] at hd
  rcases hd with rfl | rfl
  · exact fit_str (by decide +kernel)
  · exact fit_int _ _
theorem fit_stop : Fit 3 (eStm .stop) := by
  rw [eStm]
  refine fit_tup.mpr fun d hd => ?_
  cases List.mem_singleton.mp hd
  exact fit_str (by decide +kernel)
theorem fit_while {n : Nat} {t : Tst} {a : List Stm} (ht : t.deep ≤ 2) (hw : TstW t) (h3 : 3 ≤ n) (ha : Fit n (eBlk a)) : Fit (n + 1) (eStm (.while_ t a)) := by
  rw [eStm, eStms_map]
  refine fit_tup.mpr fun d hd => ?_
  simp only [List.mem_cons, List.not_mem_nil, or_false] at hd
  rcases hd with rfl | rfl | rfl
  · exact fit_str (by decide +kernel)
  · exact (fit_tst t hw).le (by omega)
  · exact ha
theorem fit_if {n : Nat} {t : Tst} {a b : List Stm} (ht : t.deep ≤ 2) (hw : TstW t) (h3 : 3 ≤ n) (ha : Fit n (eBlk a)) (hb : Fit n (eBlk b)) : Fit (n + 1) (eStm (.if_ t a b)) := by
  rw [eStm, eStms_map, eStms_map]
  refine fit_tup.mpr fun d hd => ?_
  simp only [List.mem_cons, List.not_mem_nil, or_false] at hd
  rcases hd with rfl | rfl | rfl | rfl
  · exact fit_str (by decide +kernel)
  · exact (fit_tst t hw).le (by omega)
  · exact ha
  · exact hb
theorem fit_blk {n : Nat} {b : List Stm} : Fit (n + 1) (eBlk b) ↔ ∀ s ∈ b, Fit n (eStm s) := by
  rw [fit_tup]
  exact ⟨fun h s hs => h _ (List.mem_map.mpr ⟨s, hs, rfl⟩), fun h d hd => by obtain ⟨s, hs, rfl⟩ := List.mem_map.mp hd; exact h s hs⟩
theorem BlkOk.app {c : Nat} : ∀ {a b : List Stm}, BlkOk c a → BlkOk c b → BlkOk c (a ++ b)
  | [], _, _, h => h
  | s :: l, b, h, k => by
    rw [List.cons_append]
    rw [BlkOk] at h ⊢
    exact ⟨h.1, BlkOk.app h.2 k⟩
theorem BlkOk.one {c : Nat} {s : Stm} (h : StmOk c s) : BlkOk c [s] := by rw [BlkOk]; exact ⟨h, by rw [BlkOk]; trivial⟩
theorem BlkOk.nil {c : Nat} : BlkOk c [] := by rw [BlkOk]; trivial
theorem BlkOk.rep {c : Nat} {s : Stm} (h : StmOk c s) : ∀ n : Nat, BlkOk c (List.replicate n s)
  | 0 => BlkOk.nil
  | n + 1 => by
    rw [List.replicate_succ, BlkOk]
    exact ⟨h, BlkOk.rep h n⟩
theorem still_tst : ∀ t : Tst, still (eTst t) = true
  | .ans _ => rfl | .tru => rfl | .less _ _ => rfl | .is _ _ => rfl
  | .nt t => by
    rw [eTst]
    show (still (.str "not") && (still (eTst t) && true)) = true
    rw [still_tst t]; rfl
theorem stills_ints : ∀ ns : List Int, stills (ns.map PyData.int) = true
  | [] => rfl
  | n :: l => by show (true && stills (l.map PyData.int)) = true; rw [stills_ints l]; rfl
theorem still_op : ∀ o : OpT, still (eOpT o) = true
  | .plain w ns => stills_ints ns
  | .setc _ _ _ => rfl
mutual
theorem still_stm : ∀ s : Stm, still (eStm s) = true
  | .do_ o => by rw [eStm]; show (true && (still (eOpT o) && true)) = true; rw [still_op o]; rfl
  | .add _ _ => by rw [eStm]; rfl
  | .keep _ => by rw [eStm]; rfl
  | .if_ t a b => by rw [eStm]; show (true && (still (eTst t) && (stills (eStms a) && (stills (eStms b) && true)))) = true; rw [still_tst t, still_stms a, still_stms b]; rfl
  | .while_ t a => by rw [eStm]; show (true && (still (eTst t) && (stills (eStms a) && true))) = true; rw [still_tst t, still_stms a]; rfl
  | .stop => by rw [eStm]; rfl
theorem still_stms : ∀ l : List Stm, stills (eStms l) = true
  | [] => by rw [eStms]; rfl
  | s :: l => by rw [eStms]; show (still (eStm s) && stills (eStms l)) = true; rw [still_stm s, still_stms l]; rfl
end
theorem still_blk (b : List Stm) : still (eBlk b) = true := by
  show stills (b.map eStm) = true
  rw [← eStms_map]; exact still_stms b
def kindsB : List Str := ["do", "do", "do", "if", "while", "add", "keep", "do", "do", "do", "while", "if", "add", "stop"]
section
variable {P : Program} {w : World} {K : PySem.W.Frag} {mg : Str → Option Value} {base : Heap}
theorem block_step (S : Src K mg "_law_block" st__law_block ["tape", "shape", "count", "depth", "many"]) (T : Txt K mg) (C__law_draw : Cal P w K mg base CX0 1 "_law_draw" ["tape", "many"] sp_draw) (C__law_pick : Cal P w K mg base CX0 2 "_law_pick" ["tape", "row"] sp_pick)
    (C__law_test : Cal P w K mg base CX0 5 "_law_test" ["tape", "count", "depth"] (SpG (D_test 2))) (C__law_do_row : Cal P w K mg base CX0 4 "_law_do_row" ["tape", "shape", "count"] (SpG D_row)) {k n : Nat} {sp : Sp} (hk : 5 ≤ k) (C__law_block : Cal P w K mg base CX0 k "_law_block" ["tape", "shape", "count", "depth", "many"] sp) (hn : ∀ m, n = m + 1 → sp = SpG (D_block m)) : Cal P w K mg base CX0 (k + 1) "_law_block" ["tape", "shape", "count", "depth", "many"] (SpG (D_block n)) := by
  have sc := sc__law_block
  refine S.cal (k := k) sc (SpG.len fun ds P h => by obtain ⟨_, _, _, _, _, _, _, _, rfl, _⟩ := h; rfl) (fun f cdv A outer s H vs Q E hr h => ⟨_, (pss_cons (ps_set (i := 5) sc.nd rfl (by first | exact Or.inl rfl | exact Or.inr rfl) (pe_lst pa_nil))
  (pss_cons (ps_for PassesOwn.never rfl (pi_range1 (by rfl) T.n_range (pa_cons (pe_op op_add pe_int (pe_cal C__law_draw (hr.mono (by first | decide | omega)) rfl pass0 (pa_cons (pv 0) (pa_cons (pv 4) pa_nil)))) pa_nil)) (pg_name (i := 6) sc.nd rfl (by first | exact Or.inl rfl | exact Or.inr rfl)) (pss_cons (ps_set (i := 7) sc.nd rfl (by first | exact Or.inl rfl | exact Or.inr rfl) (pe_cal C__law_pick (hr.mono (by first | decide | omega)) rfl pass0 (pa_cons (pv 0) (pa_cons (pe_lst (pa_cons pe_str (pa_cons pe_str (pa_cons pe_str (pa_cons pe_str (pa_cons pe_str (pa_cons pe_str (pa_cons pe_str (pa_cons pe_str (pa_cons pe_str (pa_cons pe_str (pa_cons pe_str (pa_cons pe_str (pa_cons pe_str (pa_cons pe_str pa_nil))))))))))))))) pa_nil))))
  (pss_one (ps_if (PW.pt (pw_and (pt_cmpR (k_in_seq (K := K) rfl) (pv 7) (pe_lst (pa_cons pe_str (pa_cons pe_str pa_nil))) (by rfl)) (pw_and1 (pt_cmpR op_gt (pv 3) pe_int (nomark _))))) (pss_cons (ps_set (i := 8) sc.nd rfl (by first | exact Or.inl rfl | exact Or.inr rfl) (pe_cal C__law_test (hr.mono (by first | decide | omega)) rfl pass0 (pa_cons (pv 0) (pa_cons (pv 2) (pa_cons pe_int pa_nil)))))
  (pss_cons (ps_set (i := 9) sc.nd rfl (by first | exact Or.inl rfl | exact Or.inr rfl) (pe_cal C__law_block (hr.mono (by first | decide | omega)) rfl pass0 (pa_cons (pv 0) (pa_cons (pv 1) (pa_cons (pv 2) (pa_cons (pe_op op_sub (pv 3) pe_int) (pa_cons pe_int pa_nil)))))))
  (pss_one (ps_if (pt_cmpR op_eq (pv 7) pe_str (nomark _)) (pss_one (ps_expr (k_append (K := K) rfl (pv 5) (pa_cons (pe_tup (pa_cons pe_str (pa_cons (pv 8) (pa_cons (pe_op (k_catA (K := K) rfl) (pe_tup (pa_cons (pe_cal C__law_do_row (hr.mono (by first | decide | omega)) rfl pass0 (pa_cons (pv 0) (pa_cons (pv 1) (pa_cons (pv 2) pa_nil)))) pa_nil)) (pv 9)) pa_nil)))) pa_nil)))) (pss_one (ps_expr (k_append (K := K) rfl (pv 5) (pa_cons (pe_tup (pa_cons pe_str (pa_cons (pv 8) (pa_cons (pe_ifExp (pt_cmpR op_gt (pe_cal C__law_draw (hr.mono (by first | decide | omega)) rfl pass0 (pa_cons (pv 0) (pa_cons pe_int pa_nil))) pe_int (nomark _)) (pv 9) (pe_tup pa_nil)) (pa_cons (pe_cal C__law_block (hr.mono (by first | decide | omega)) rfl pass0 (pa_cons (pv 0) (pa_cons (pv 1) (pa_cons (pv 2) (pa_cons (pe_op op_sub (pv 3) pe_int) (pa_cons pe_int pa_nil)))))) pa_nil))))) pa_nil)))))))) (pss_one (ps_if (PW.pt (pw_and (pt_cmpR op_eq (pv 7) pe_str (nomark _)) (pw_and1 (pt_cmpR op_gt (pv 2) pe_int (nomark _))))) (pss_one (ps_expr (k_append (K := K) rfl (pv 5) (pa_cons (pe_tup (pa_cons pe_str (pa_cons (pe_cal C__law_draw (hr.mono (by first | decide | omega)) rfl pass0 (pa_cons (pv 0) (pa_cons (pv 2) pa_nil))) (pa_cons (pe_cal C__law_pick (hr.mono (by first | decide | omega)) rfl pass0 (pa_cons (pv 0) (pa_cons (pe_lst (pa_cons pe_int (pa_cons (pe_un un_neg pe_int) (pa_cons pe_int (pa_cons (pe_op op_sub (pe_op op_pow pe_int pe_int) pe_int) (pa_cons (pe_op op_sub pe_int (pe_op op_pow pe_int pe_int)) (pa_cons pe_int pa_nil))))))) pa_nil))) pa_nil)))) pa_nil)))) (pss_one (ps_if (PW.pt (pw_and (pt_cmpR op_eq (pv 7) pe_str (nomark _)) (pw_and1 (pt_cmpR op_gt (pv 2) pe_int (nomark _))))) (pss_one (ps_expr (k_append (K := K) rfl (pv 5) (pa_cons (pe_tup (pa_cons pe_str (pa_cons (pe_cal C__law_draw (hr.mono (by first | decide | omega)) rfl pass0 (pa_cons (pv 0) (pa_cons (pv 2) pa_nil))) pa_nil))) pa_nil)))) (pss_one (ps_if (PW.pt (pw_and (pt_cmpR op_eq (pv 7) pe_str (nomark _)) (pw_and1 (pt_cmpR op_eq (pe_cal C__law_draw (hr.mono (by first | decide | omega)) rfl pass0 (pa_cons (pv 0) (pa_cons pe_int pa_nil))) pe_int (nomark _))))) (pss_one (ps_expr (k_append (K := K) rfl (pv 5) (pa_cons (pe_tup (pa_cons pe_str pa_nil)) pa_nil)))) (pss_one (ps_expr (k_append (K := K) rfl (pv 5) (pa_cons (pe_cal C__law_do_row (hr.mono (by first | decide | omega)) rfl pass0 (pa_cons (pv 0) (pa_cons (pv 1) (pa_cons (pv 2) pa_nil)))) pa_nil))))))))))))))
  (pss_one (ps_ret (pe_callTy (k_tuple_of (K := K) rfl) (by rfl) T.n_tuple (by decide +kernel) (pa_cons (pv 5) pa_nil)))))), ?_⟩)
  obtain ⟨t, c, ws, ds, PP, rfl, T0, sst, ims, ⟨a, b, R, G, e, cnt, dep, many, rfl, hR, hG1, hG2, hc, hd, hm1, hm2, hP⟩, kk⟩ := h
  cases ims with
  | @cons v1 _ _ _ i1 ims =>
  obtain ⟨v2, v3, v4, rfl, i2, i3, i4⟩ := ims.three
  cases i2.i; cases i3.i; cases i4.i
  have ss : still (eShape a b R G e) = true := rfl
  show tSeq (tAsg _ _) _ _ [some (.ref t), some v1, some (.int (cnt : Nat)), some (.int (dep : Nat)), some (.int (many : Nat)), none, none, none, none, none] H
  refine q_asgN (ds := []) (en_lst ea0 (by show 0 ≤ 100000; omega)) ?_
  intro p xs0 H1 np e1 a1 b1
  cases b1
  have T1 := T0.ex e1
  have pn := T0.notin np
  show tSeq (tFor _ _ _) _ _ [some (.ref t), some v1, some (.int (cnt : Nat)), some (.int (dep : Nat)), some (.int (many : Nat)), some (.ref p), none, none, none, none] H1
  refine q_forR [t, c, p] (C := fun src H2 => ∃ m, m ≤ 10 ∧ src = (List.range m).map (fun i => PyData.int (i : Nat)) ∧ Go t c H1 H2) (run_range fun Q q => consA (op_run ev_c fun H2 e2 => drawn (it := 0) (m := many) rfl (T1.ex e2) (ed_var rfl (.int _)) hm1 (by omega) fun r hr' H3 g3 => ⟨1, r, rfl, rfl, nilA ?_⟩)) ?_
  · have := q (1 + r) H3 (by omega) ⟨1 + r, by omega, rfl, (Go.of T1 e2).trans g3⟩
    have ee : ((1 + r : Nat) : Int) = 1 + (r : Int) := by omega
    rw [ee] at this
    exact this
  rintro src H2 ⟨m, hm, rfl, g12⟩
  have G02 : Go t c H H2 := (Go.of T0 e1).trans g12
  refine ⟨fun i σ' H' => (∃ s6 s7 s8 s9, σ' = [some (.ref t), some v1, some (.int (cnt : Nat)), some (.int (dep : Nat)), some (.int (many : Nat)), some (.ref p), s6, s7, s8, s9]) ∧ Go t c H H' ∧ ∃ (bl : List Stm) (xs : List V), H' p = some (.lst xs) ∧ Ims H' xs (bl.map eStm) ∧ BlkOk cnt bl ∧ (∀ s ∈ bl, Fit (4 * dep + 3) (eStm s)) ∧ bl.length ≤ i,
    ⟨⟨_, _, _, _, rfl⟩, G02, [], [], g12.at pn a1, .nil, BlkOk.nil, (fun s hs => absurd hs List.not_mem_nil), Nat.le_refl _⟩, fun i σ' H3 H4 ⟨q1, q2, bl, xs, q3, q4, q5⟩ e => ⟨q1, q2.ex e, bl, xs, e _ _ q3, q4.mono e, q5⟩, ?_, ?_⟩
  · rintro i d x σ' H3 H4 hd' e34 ix ⟨⟨s6, s7, s8, s9, rfl⟩, g4, bl, xs, a4, b4, ok, fits, hl⟩
    have him : i < m := by
      have := (List.getElem?_eq_some_iff.mp hd').1
      simpa using this
    have xl : xs.length ≤ 10 := by rw [b4.length, List.length_map]; omega
    show tSeq (tAsg _ _) _ _ [some (.ref t), some v1, some (.int (cnt : Nat)), some (.int (dep : Nat)), some (.int (many : Nat)), some (.ref p), some x, s7, s8, s9] H4
    refine q_asgG (t := t) (c := c) g4.2 (eg_pick (P := StrIn kindsB) (it := 0) rfl (egs_strs (L := kindsB) (fun H1 g => ea1 (ed_s _) (ea1 (ed_s _) (ea1 (ed_s _) (ea1 (ed_s _) (ea1 (ed_s _) (ea1 (ed_s _) (ea1 (ed_s _) (ea1 (ed_s _) (ea1 (ed_s _) (ea1 (ed_s _) (ea1 (ed_s _) (ea1 (ed_s _) (ea1 (ed_s _) (ea1 (ed_s _) ea0)))))))))))))) (by simp [kindsB]) (by simp [kindsB]))) ?_
    rintro v d5 H5 g5 s5 ⟨s, hs, rfl⟩ iv
    cases iv.s
    have a5 := g5.at pn a4
    have sbl : stills (bl.map eStm) = true := still_blk bl
    have b5 : Ims H5 xs (bl.map eStm) := b4.tx g5.1.2 sbl
    have G5 := g4.trans g5
    -- the append of a right statement
    have fin : ∀ {te : TE} {σ : L2.St} {H6 : Hp}, (∃ s7 s8 s9, σ = [some (.ref t), some v1, some (.int (cnt : Nat)), some (.int (dep : Nat)), some (.int (many : Nat)), some (.ref p), some x, s7, s8, s9]) → Go t c H5 H6 → EvG t c te σ H6 (fun d => ∃ s : Stm, (StmOk cnt s ∧ Fit (4 * dep + 3) (eStm s)) ∧ d = eStm s) →
        tDrop (tBM K "list" rAppend (tVar 5) (tCons te tNil)) { ({ nx := fun _ H' => Q .non H', rt := Q } : Ends) with nx := fun σ3 H6 => ((∃ s6 s7 s8 s9, σ3 = [some (.ref t), some v1, some (.int (cnt : Nat)), some (.int (dep : Nat)), some (.int (many : Nat)), some (.ref p), s6, s7, s8, s9]) ∧ Go t c H H6 ∧ ∃ (bl : List Stm) (xs : List V), H6 p = some (.lst xs) ∧ Ims H6 xs (bl.map eStm) ∧ BlkOk cnt bl ∧ (∀ s ∈ bl, Fit (4 * dep + 3) (eStm s)) ∧ bl.length ≤ i + 1) ∧ ExM [t, c, p] H3 H6, ct := fun σ3 H6 => ((∃ s6 s7 s8 s9, σ3 = [some (.ref t), some v1, some (.int (cnt : Nat)), some (.int (dep : Nat)), some (.int (many : Nat)), some (.ref p), s6, s7, s8, s9]) ∧ Go t c H H6 ∧ ∃ (bl : List Stm) (xs : List V), H6 p = some (.lst xs) ∧ Ims H6 xs (bl.map eStm) ∧ BlkOk cnt bl ∧ (∀ s ∈ bl, Fit (4 * dep + 3) (eStm s)) ∧ bl.length ≤ i + 1) ∧ ExM [t, c, p] H3 H6, bk := (tRet (tCB (rTupOf K) (tCons (tVar 5) tNil))) { nx := fun _ H' => Q .non H', rt := Q } } σ H6 := by
      rintro te _ H6 ⟨s7, s8, s9, rfl⟩ g6 h
      have G6 := G5.trans g6
      refine s_appG (t := t) (c := c) g6.2 (g6.at pn a5) pn (ev_var rfl) h (by omega) ?_
      rintro v d H7 g7 s7' ⟨s, ⟨ho, hf⟩, rfl⟩ hl7 iv7
      have g57 := g6.trans g7
      refine ⟨⟨⟨_, _, _, _, rfl⟩, (G5.trans g57).mut T0 np, bl ++ [s], xs ++ [v], upd_same, ?_, ok.app (.one ho), fun s' hs' => ?_, by rw [List.length_append]; show _ + 1 ≤ _; omega⟩, ?_⟩
      · rw [List.map_append]
        exact Ims.append ((b5.tx g57.1.2 sbl).tx (tx_lst hl7) sbl) (.cons iv7 .nil)
      · rcases List.mem_append.mp hs' with h1 | h1
        · exact fits s' h1
        · cases List.mem_singleton.mp h1
          exact hf
      · exact (((ExM.of e34).trans (g5.trans g57).1).weak (fun a ha => by simp at ha ⊢; rcases ha with h | h <;> simp [h])).trans (ExM.upd hl7 (by simp))
    have vsh : ∀ {σ : L2.St} {H6 : Hp}, σ[1]? = some (some v1) → Go t c H5 H6 → EvG t c (tVar 1) σ H6 fun d => d = eShape a b R G e := fun h g => eg_var h ((G5.trans g).im ss i1) ss rfl
    have vcn : ∀ {σ : L2.St} {H6 : Hp}, σ[2]? = some (some (.int (cnt : Nat))) → EvG t c (tVar 2) σ H6 fun d => d = .int (cnt : Nat) := fun h => eg_vi h rfl
    have row : ∀ {σ : L2.St} {H6 : Hp} {PQ : PyData → Prop}, σ[0]? = some (some (.ref t)) → σ[1]? = some (some v1) → σ[2]? = some (some (.int (cnt : Nat))) → Go t c H5 H6 → (∀ o, OpTOk cnt o → PQ (eStm (.do_ o))) → EvG t c (tCall (SpG D_row) [] E0 (tCons (tVar 0) (tCons (tVar 1) (tCons (tVar 2) tNil)))) σ H6 PQ := fun h0 h1 h2 g hq =>
      eg_call h0 (egs1 (vsh h1 g) fun d1 p1 => egs1 (vcn h2) fun d2 p2 => egs0 (by subst p1; subst p2; exact ⟨a, b, R, G, e, cnt, rfl, hR, hG1, hG2, hc, hq⟩))
    show tIfS (tAnd (tTest _) (tTest _)) _ _ _ [some (.ref t), some v1, some (.int (cnt : Nat)), some (.int (dep : Nat)), some (.int (many : Nat)), some (.ref p), some x, some (.str s), s8, s9] H5
    refine s_if (b := decide (s ∈ (["if", "while"] : List Str)) && decide (0 < dep)) (et_is (et_and (et_D (ed_inL (ed_var rfl (.str _)) ed_words2)) (fun _ => et_D (ed_B0 (g := fun i j => decide (j < i)) (ed_var rfl (.int _)) (ed_i 0)))) (by rw [show decide ((0 : Int) < (dep : Int)) = decide (0 < dep) from decide_eq_decide.mpr (by omega)])) ?_ ?_
    · intro hb H6 e6
      simp only [Bool.and_eq_true, decide_eq_true_eq] at hb
      obtain ⟨dp, rfl⟩ : ∃ dp, dep = dp + 1 := ⟨dep - 1, by omega⟩
      obtain ⟨n', rfl⟩ : ∃ n', n = n' + 1 := ⟨n - 1, by omega⟩
      have esp := hn n' rfl
      subst esp
      have g56 : Go t c H5 H6 := Go.of g5.2 e6
      have blk : ∀ {σ : L2.St} {H6 : Hp} {PQ : PyData → Prop}, σ[0]? = some (some (.ref t)) → σ[1]? = some (some v1) → σ[2]? = some (some (.int (cnt : Nat))) → σ[3]? = some (some (.int ((dp + 1 : Nat) : Int))) → Go t c H5 H6 → (∀ bl, BlkOk cnt bl → Fit (4 * dp + 4) (eBlk bl) → bl.length ≤ 10 → PQ (eBlk bl)) →
          EvG t c (tCall (SpG (D_block n')) [] E0 (tCons (tVar 0) (tCons (tVar 1) (tCons (tVar 2) (tCons (tOp (rI0 fun i j => .int (i - j)) (tVar 3) (tC (.int 1))) (tCons (tC (.int 2)) tNil)))))) σ H6 PQ := fun h0 h1 h2 h3 g hq =>
        eg_call h0 (egs1 (vsh h1 g) fun d1 p1 => egs1 (vcn h2) fun d2 p2 => egs1 (P := fun d => d = .int (dp : Nat)) (eg_d (d := .int (((dp + 1 : Nat) : Int) - 1)) (fun H3 g3 => ed_I0 (g := fun i j => i - j) (ed_var h3 (.int _)) (ed_i 1)) rfl (by congr 1; omega)) fun d3 p3 => egs1 (P := fun d => d = .int ((2 : Nat) : Int)) (eg_i _ rfl) fun d4 p4 => egs0 (by subst p1; subst p2; subst p3; subst p4; exact ⟨a, b, R, G, e, cnt, dp, 2, rfl, hR, hG1, hG2, hc, by omega, by omega, by omega, hq⟩))
      refine q_asgG (t := t) (c := c) g56.2 (eg_call (P := fun d => ∃ t : Tst, (t.deep ≤ 2 ∧ TstOk cnt t ∧ TstW t) ∧ d = eTst t) rfl (egs1 (vcn rfl) fun d1 p1 => egs1 (P := fun d => d = .int ((2 : Nat) : Int)) (eg_i _ rfl) fun d2 p2 => egs0 (by subst p1; subst p2; exact ⟨cnt, 2, rfl, Nat.le_refl _, hc, fun t h1 h2 h3 => ⟨t, ⟨h1, h2, h3⟩, rfl⟩⟩))) ?_
      rintro vt dt H7 g7 st7 ⟨tt, ⟨td, tok, tw⟩, rfl⟩ it
      have g57 := g56.trans g7
      show tSeq (tAsg _ _) _ _ [some (.ref t), some v1, some (.int (cnt : Nat)), some (.int ((dp + 1 : Nat) : Int)), some (.int (many : Nat)), some (.ref p), some x, some (.str s), some vt, s9] H7
      refine q_asgG (t := t) (c := c) g57.2 (blk (PQ := fun d => ∃ bl, (BlkOk cnt bl ∧ Fit (4 * dp + 4) (eBlk bl) ∧ bl.length ≤ 10) ∧ d = eBlk bl) rfl rfl rfl rfl g57 fun bl h1 h2 h3 => ⟨bl, ⟨h1, h2, h3⟩, rfl⟩) ?_
      rintro vf df H8 g8 st8 ⟨fb, ⟨fok, ffit, fl⟩, rfl⟩ if8
      have g58 := g57.trans g8
      have it8 := g8.im st7 it
      show tIfS _ _ _ _ [some (.ref t), some v1, some (.int (cnt : Nat)), some (.int ((dp + 1 : Nat) : Int)), some (.int (many : Nat)), some (.ref p), some x, some (.str s), some vt, some vf] H8
      refine s_if (et_D (ed_eqS (ed_var rfl (.str _)) (ed_s _))) ?_ ?_
      · intro _ H9 e9
        have g59 := g58.ex e9
        refine fin ⟨_, _, _, rfl⟩ g59 (eg_t3 (P1 := fun d => d = .str "while") (P2 := fun d => d = eTst tt) (P3 := fun d => ∃ bl, (BlkOk cnt bl ∧ Fit (4 * dp + 4) (eBlk bl)) ∧ d = eBlk bl) (eg_s _ rfl) (eg_var rfl (it8.mono e9) st7 rfl) (eg_catA (PA := fun ds => ∃ o, OpTOk cnt o ∧ ds = [eStm (.do_ o)]) (PB := fun ds => ds = fb.map eStm) (eg_t1 (P1 := fun d => ∃ o, OpTOk cnt o ∧ d = eStm (.do_ o)) (row rfl rfl rfl g59 fun o ho => ⟨o, ho, rfl⟩) ?_) (eg_var rfl (if8.mono e9) st8 ⟨_, rfl, rfl⟩) ?_) ?_)
        · rintro _ ⟨o, ho, rfl⟩
          exact ⟨_, rfl, o, ho, rfl⟩
        · rintro _ _ ⟨o, ho, rfl⟩ rfl
          refine ⟨by rw [List.length_map]; show 1 + _ ≤ _; omega, [.do_ o] ++ fb, ⟨(BlkOk.one (by rw [StmOk]; exact ho)).app fok, fit_blk.mpr fun s' hs' => ?_⟩, by rw [eBlk, List.map_append]; rfl⟩
          rcases List.mem_append.mp hs' with h1 | h1
          · cases List.mem_singleton.mp h1
            exact (fit_do ho).le (by omega)
          · exact fit_blk.mp ffit s' h1
        · rintro _ _ _ rfl rfl ⟨wb, ⟨wok, wfit⟩, rfl⟩
          refine ⟨.while_ tt wb, ⟨by rw [StmOk]; exact ⟨⟨td, tok⟩, wok⟩, (fit_while td tw (by omega) wfit).le (by omega)⟩, by rw [eStm, eStms_map]⟩
      · intro _ H9 e9
        have g59 := g58.ex e9
        refine fin ⟨_, _, _, rfl⟩ g59 (eg_t4 (P1 := fun d => d = .str "if") (P2 := fun d => d = eTst tt) (P3 := fun d => ∃ bl, (BlkOk cnt bl ∧ Fit (4 * dp + 4) (eBlk bl)) ∧ d = eBlk bl) (P4 := fun d => ∃ bl, (BlkOk cnt bl ∧ Fit (4 * dp + 4) (eBlk bl)) ∧ d = eBlk bl) (eg_s _ rfl) (eg_var rfl (it8.mono e9) st7 rfl)
          (eg_if (PB := fun _ => True) (egt_test (eg_B0 (gg := fun i j => decide (j < i)) (PA := fun _ => True) (PB := fun _ => True) (eg_drawC (m := 5) rfl (by omega) (by omega) fun r _ => ⟨_, rfl, trivial⟩) (eg_i 0 ⟨_, rfl, trivial⟩) fun i j _ _ => ⟨_, rfl, trivial⟩)) (fun _ => eg_var rfl (if8.mono e9) st8 ⟨fb, ⟨fok, ffit⟩, rfl⟩) (fun _ => eg_tup (egs0 ⟨by show 0 ≤ 100000; omega, [], ⟨BlkOk.nil, fit_blk.mpr fun s hs => absurd hs List.not_mem_nil⟩, rfl⟩)))
          (blk rfl rfl rfl rfl g59 fun bl h1 h2 h3 => ⟨bl, ⟨h1, h2⟩, rfl⟩) ?_)
        rintro _ _ _ _ rfl rfl ⟨b1, ⟨ok1, f1⟩, rfl⟩ ⟨b2, ⟨ok2, f2⟩, rfl⟩
        exact ⟨.if_ tt b1 b2, ⟨by rw [StmOk]; exact ⟨⟨td, tok⟩, ok1, ok2⟩, (fit_if td tw (by omega) f1 f2).le (by omega)⟩, by rw [eStm, eStms_map, eStms_map]⟩
    · intro _ H6 e6
      have g6 : Go t c H5 H6 := Go.of g5.2 e6
      have cpos : ∀ {σ : L2.St} {H6 : Hp} {u : Str}, σ[7]? = some (some (.str s)) → σ[2]? = some (some (.int (cnt : Nat))) → EvT (tAnd (tTest (tOp rEq (tVar 7) (tC (.str u)))) (tTest (tOp (rI0 fun i j => .bl (decide (j < i))) (tVar 2) (tC (.int 0))))) σ H6 (decide (s = u) && decide (0 < cnt)) := fun h7 h2 => et_is (et_and (et_D (ed_eqS (ed_var h7 (.str _)) (ed_s _))) (fun _ => et_D (ed_B0 (g := fun i j => decide (j < i)) (ed_var h2 (.int _)) (ed_i 0)))) (by rw [show decide ((0 : Int) < (cnt : Int)) = decide (0 < cnt) from decide_eq_decide.mpr (by omega)])
      refine s_if (cpos rfl rfl) ?_ ?_
      · intro hb H7 e7
        simp only [Bool.and_eq_true, decide_eq_true_eq] at hb
        refine fin ⟨_, _, _, rfl⟩ (g6.ex e7) (eg_t3 (P1 := fun d => d = .str "add") (P2 := fun d => ∃ i : Nat, i < cnt ∧ d = .int (i : Nat)) (P3 := IntP) (eg_s _ rfl) (eg_drawV rfl rfl (by omega) hc fun r hr => ⟨r, hr, rfl⟩) (eg_pick rfl (egs_some (P := IntP) (ig 1) (egs_n1 ig_m1 (egs_n1 (ig 2) (egs_n1 ig_18m (egs_n1 ig_m18 (egs_n1 (ig 0) egs_n0))))) (by omega))) ?_)
        rintro _ _ _ rfl ⟨i, hi, rfl⟩ ⟨q, rfl⟩
        exact ⟨.add i q, ⟨by rw [StmOk]; exact hi, fit_add.le (by omega)⟩, by rw [eStm]⟩
      intro _ H7 e7
      refine s_if (cpos rfl rfl) ?_ ?_
      · intro hb H8 e8
        simp only [Bool.and_eq_true, decide_eq_true_eq] at hb
        refine fin ⟨_, _, _, rfl⟩ ((g6.ex e7).ex e8) (eg_t2 (P1 := fun d => d = .str "keep") (P2 := fun d => ∃ i : Nat, i < cnt ∧ d = .int (i : Nat)) (eg_s _ rfl) (eg_drawV rfl rfl (by omega) hc fun r hr => ⟨r, hr, rfl⟩) ?_)
        rintro _ _ rfl ⟨i, hi, rfl⟩
        exact ⟨.keep i, ⟨by rw [StmOk]; exact hi, fit_keep.le (by omega)⟩, by rw [eStm]⟩
      intro _ H8 e8
      have g8 := (g6.ex e7).ex e8
      refine s_ifG (t := t) (c := c) (PB := fun _ => True) g8.2 (egt_and (PA := fun _ => True) (PB := fun _ => True) (egt_d (fun H2 g => et_D (ed_eqS (ed_var rfl (.str _)) (ed_s _))) trivial) (fun _ => egt_test (eg_eqI (PA := fun _ => True) (PB := fun _ => True) (eg_drawC (m := 3) rfl (by omega) (by omega) fun r _ => ⟨_, rfl, trivial⟩) (eg_i 0 ⟨_, rfl, trivial⟩) fun i j _ _ => ⟨_, rfl, trivial⟩)) (fun _ => trivial) (fun _ _ _ => trivial)) ?_ ?_
      · intro _ H9 g9
        refine fin ⟨_, _, _, rfl⟩ (g8.trans g9) (eg_t1 (P1 := fun d => d = .str "stop") (eg_s _ rfl) ?_)
        rintro _ rfl
        exact ⟨.stop, ⟨by rw [StmOk]; trivial, fit_stop.le (by omega)⟩, by rw [eStm]⟩
      · intro _ H9 g9
        refine fin ⟨_, _, _, rfl⟩ (g8.trans g9) (row rfl rfl rfl (g8.trans g9) fun o ho => ⟨.do_ o, ⟨by rw [StmOk]; exact ho, (fit_do ho).le (by omega)⟩, rfl⟩)
  · rintro σ' H' ⟨⟨s6, s7, s8, s9, rfl⟩, g4, bl, xs, a4, b4, ok, fits, hl⟩
    rw [List.length_map, List.length_range] at hl
    refine s_retD (ed_tupOf (ed_var rfl (.lst a4 b4))) fun v H5 e5 iv => ?_
    exact kk v _ H5 (g4.ex e5) (still_blk bl) (hP bl ok (fit_blk.mpr fits) (by omega)) iv
theorem cal__law_block (S : Src K mg "_law_block" st__law_block ["tape", "shape", "count", "depth", "many"]) (T : Txt K mg) (C__law_draw : Cal P w K mg base CX0 1 "_law_draw" ["tape", "many"] sp_draw) (C__law_pick : Cal P w K mg base CX0 2 "_law_pick" ["tape", "row"] sp_pick)
    (C__law_test : Cal P w K mg base CX0 5 "_law_test" ["tape", "count", "depth"] (SpG (D_test 2))) (C__law_do_row : Cal P w K mg base CX0 4 "_law_do_row" ["tape", "shape", "count"] (SpG D_row)) : ∀ n, Cal P w K mg base CX0 (n + 6) "_law_block" ["tape", "shape", "count", "depth", "many"] (SpG (D_block n))
  | 0 => block_step S T C__law_draw C__law_pick C__law_test C__law_do_row (k := 5) (sp := fun _ _ _ _ => False) (by omega) (cal_false S) (fun m h => by omega)
  | n + 1 => block_step S T C__law_draw C__law_pick C__law_test C__law_do_row (k := n + 6) (by omega) (cal__law_block S T C__law_draw C__law_pick C__law_test C__law_do_row n) (fun m h => by
      have : n = m := by omega
      rw [this])
end
end K97
set_option Elab.async false
set_option linter.all false
set_option maxRecDepth 100000
set_option maxHeartbeats 4000000
namespace K97
open PySem PySem.Spec PyProof.Rows L2 Evl Pd
structure TelOk (cnt : Nat) (b : List Stm) : Prop where
  small : cnt ≤ 1000
  ok : BlkOk cnt b
  fit : Fit 60 (eBlk b)
abbrev eTel (cnt : Nat) (b : List Stm) : PyData := .tuple [.int (cnt : Nat), eBlk b]
def D_tel (ds : List PyData) (P : PyData → Prop) : Prop := ∃ (a b : Int) (R G : Nat) (e : Int), ds = [eShape a b R G e] ∧ R ≤ 1000 ∧ 1 ≤ G ∧ G ≤ 1000 ∧ ∀ cnt bl, TelOk cnt bl → P (eTel cnt bl)
def D_long (ds : List PyData) (P : PyData → Prop) : Prop := ds = [] ∧ ∀ cnt bl, TelOk cnt bl → P (eTel cnt bl)
abbrev oneS : Stm := .do_ (.plain "drop" [0])
theorem one_ok {c : Nat} : StmOk c oneS := by rw [StmOk]; exact (by decide +kernel : (("drop" : Str), 1) ∈ opShapes)
theorem fit_one : Fit 3 (eStm oneS) := fit_do (c := 0) (by exact (by decide +kernel : (("drop" : Str), 1) ∈ opShapes))
theorem e_one : eStm oneS = .tuple [.str "do", .tuple [.str "drop", .int 0]] := by rw [eStm]; rfl
theorem mem_rep {α : Type} {a b : α} {n : Nat} (h : b ∈ List.replicate n a) : b = a := List.eq_of_mem_replicate h
section
variable {P : Program} {w : World} {K : PySem.W.Frag} {mg : Str → Option Value} {base : Heap}
theorem cal__law_teller (S : Src K mg "_law_teller" st__law_teller ["tape", "shape"]) (T : Txt K mg) (C__law_draw : Cal P w K mg base CX0 1 "_law_draw" ["tape", "many"] sp_draw) (C__law_block : Cal P w K mg base CX0 8 "_law_block" ["tape", "shape", "count", "depth", "many"] (SpG (D_block 2))) : Cal P w K mg base CX0 9 "_law_teller" ["tape", "shape"] (SpG D_tel) := by
  have sc := sc__law_teller
  refine S.cal (k := 8) sc (SpG.len fun ds P h => by obtain ⟨_, _, _, _, _, rfl, _⟩ := h; rfl) (fun f cdv A outer s H vs Q E hr h => ⟨_, (pss_cons (ps_set (i := 2) sc.nd rfl (by first | exact Or.inl rfl | exact Or.inr rfl) (pe_cal C__law_draw (hr.mono (by first | decide | omega)) rfl pass0 (pa_cons (pv 0) (pa_cons pe_int pa_nil))))
  (pss_one (ps_ret (pe_tup (pa_cons (pv 2) (pa_cons (pe_cal C__law_block (hr.mono (by first | decide | omega)) rfl pass0 (pa_cons (pv 0) (pa_cons (pv 1) (pa_cons (pv 2) (pa_cons pe_int (pa_cons pe_int pa_nil)))))) pa_nil)))))), ?_⟩)
  obtain ⟨t, c, ws, ds, PP, rfl, T0, sst, ims, ⟨a, b, R, G, e, rfl, hR, hG1, hG2, hP⟩, kk⟩ := h
  obtain ⟨v1, rfl, i1⟩ := ims.one
  have ss : still (eShape a b R G e) = true := rfl
  show tSeq (tAsg _ _) _ _ [some (.ref t), some v1, none] H
  refine q_asgG (t := t) (c := c) T0 (eg_drawC (m := 4) (P := fun d => ∃ r : Nat, r < 4 ∧ d = .int (r : Nat)) rfl (by omega) (by omega) fun r hr => ⟨r, hr, rfl⟩) ?_
  rintro v d H1 g1 s1 ⟨cnt, hc, rfl⟩ iv
  cases iv.i
  refine s_retG (P := PP) g1.2 (eg_t2 (P1 := fun d => d = .int (cnt : Nat)) (P2 := fun d => ∃ bl, (BlkOk cnt bl ∧ Fit 12 (eBlk bl)) ∧ d = eBlk bl) (eg_vi rfl rfl) (eg_call rfl (egs1 (P := fun d => d = eShape a b R G e) (eg_var rfl (g1.im ss i1) ss rfl) fun d1 p1 => egs1 (P := fun d => d = .int (cnt : Nat)) (eg_vi rfl rfl) fun d2 p2 => egs1 (P := fun d => d = .int ((2 : Nat) : Int)) (eg_i _ rfl) fun d3 p3 => egs1 (P := fun d => d = .int ((5 : Nat) : Int)) (eg_i _ rfl) fun d4 p4 => egs0 ?_)) ?_) fun v d H4 g4 s4 p4 iv4 => kk v d H4 (g1.trans g4) s4 p4 iv4
  · subst p1; subst p2; subst p3; subst p4
    exact ⟨a, b, R, G, e, cnt, 2, 5, rfl, hR, hG1, hG2, by omega, Nat.le_refl _, by omega, by omega, fun bl h1 h2 h3 => ⟨bl, ⟨h1, h2⟩, rfl⟩⟩
  · rintro _ _ rfl ⟨bl, ⟨h1, h2⟩, rfl⟩
    exact hP cnt bl ⟨by omega, h1, h2.le (by omega)⟩
theorem cal__law_long (S : Src K mg "_law_long" st__law_long ["tape"]) (T : Txt K mg) (C__law_draw : Cal P w K mg base CX0 1 "_law_draw" ["tape", "many"] sp_draw) : Cal P w K mg base CX0 2 "_law_long" ["tape"] (SpG D_long) := by
  have sc := sc__law_long
  refine S.cal (k := 1) sc (SpG.len fun ds P h => by obtain ⟨rfl, _⟩ := h; rfl) (fun f cdv A outer s H vs Q E hr h => ⟨_, (pss_cons (ps_par (i := 1) (j := 2) rfl sc.nd rfl rfl (by decide) rfl rfl (pa_cons (pe_cal C__law_draw (hr.mono (by first | decide | omega)) rfl pass0 (pa_cons (pv 0) (pa_cons pe_int pa_nil))) (pa_cons (pe_op op_add pe_int (pe_cal C__law_draw (hr.mono (by first | decide | omega)) rfl pass0 (pa_cons (pv 0) (pa_cons pe_int pa_nil)))) pa_nil)) (by rfl))
  (pss_cons (ps_set (i := 3) sc.nd rfl (by first | exact Or.inl rfl | exact Or.inr rfl) (pe_tup (pa_cons pe_str (pa_cons (pe_tup (pa_cons pe_str (pa_cons pe_int pa_nil))) pa_nil))))
  (pss_cons (ps_if (pt_cmpR op_eq (pv 1) pe_int (nomark _)) (pss_one (ps_ret (pe_tup (pa_cons pe_int (pa_cons (pe_op (k_catA (K := K) rfl) (pe_op (k_catA (K := K) rfl) (pe_tup (pa_cons (pv 3) pa_nil)) (pe_op (k_repW (K := K) rfl) (pe_tup (pa_cons (pe_tup (pa_cons pe_str (pa_cons pe_int (pa_cons pe_int pa_nil)))) pa_nil)) (pv 2))) (pe_tup (pa_cons (pv 3) pa_nil))) pa_nil))))) pss_nil)
  (pss_cons (ps_if (pt_cmpR op_eq (pv 1) pe_int (nomark _)) (pss_one (ps_ret (pe_tup (pa_cons pe_int (pa_cons (pe_op (k_catA (K := K) rfl) (pe_tup (pa_cons (pv 3) pa_nil)) (pe_op (k_repW (K := K) rfl) (pe_tup (pa_cons (pe_tup (pa_cons pe_str (pa_cons pe_int pa_nil))) pa_nil)) (pv 2))) pa_nil))))) pss_nil)
  (pss_cons (ps_if (pt_cmpR op_eq (pv 1) pe_int (nomark _)) (pss_one (ps_ret (pe_tup (pa_cons pe_int (pa_cons (pe_op (k_catA (K := K) rfl) (pe_op (k_repW (K := K) rfl) (pe_tup (pa_cons (pe_tup (pa_cons pe_str (pa_cons pe_int (pa_cons pe_int pa_nil)))) pa_nil)) (pv 2)) (pe_tup (pa_cons (pe_tup (pa_cons pe_str pa_nil)) (pa_cons (pv 3) pa_nil)))) pa_nil))))) pss_nil)
  (pss_cons (ps_if (pt_cmpR op_eq (pv 1) pe_int (nomark _)) (pss_one (ps_ret (pe_tup (pa_cons pe_int (pa_cons (pe_tup (pa_cons (pv 3) (pa_cons (pe_tup (pa_cons pe_str (pa_cons pe_int (pa_cons pe_int pa_nil)))) (pa_cons (pe_tup (pa_cons pe_str (pa_cons (pe_tup (pa_cons pe_str (pa_cons pe_int (pa_cons (pe_op op_add pe_int (pe_cal C__law_draw (hr.mono (by first | decide | omega)) rfl pass0 (pa_cons (pv 0) (pa_cons pe_int pa_nil)))) pa_nil)))) (pa_cons (pe_tup (pa_cons (pe_tup (pa_cons pe_str (pa_cons pe_int (pa_cons pe_int pa_nil)))) pa_nil)) pa_nil)))) (pa_cons (pv 3) pa_nil))))) pa_nil))))) pss_nil)
  (pss_one (ps_ret (pe_tup (pa_cons pe_int (pa_cons (pe_tup (pa_cons (pv 3) (pa_cons (pe_tup (pa_cons pe_str (pa_cons (pe_tup (pa_cons pe_str pa_nil)) (pa_cons (pe_tup pa_nil) (pa_cons (pe_op (k_repW (K := K) rfl) (pe_tup (pa_cons (pe_tup (pa_cons pe_str (pa_cons pe_int (pa_cons pe_int pa_nil)))) pa_nil)) (pe_op op_sub (pv 2) pe_int)) pa_nil))))) (pa_cons (pv 3) (pa_cons (pe_tup (pa_cons pe_str pa_nil)) pa_nil))))) pa_nil))))))))))), ?_⟩)
  obtain ⟨t, c, ws, ds, PP, rfl, T0, sst, ims, ⟨rfl, hP⟩, kk⟩ := h
  cases ims
  show tSeq (tPar _ _ _) _ _ [some (.ref t), none, none, none] H
  refine q_par2 ((egs1 (PP := fun ds => ∃ (a : Nat) (m : Nat), (994 ≤ m ∧ m ≤ 1002) ∧ ds = [.int (a : Nat), .int (m : Nat)]) (eg_drawC (m := 5) (P := fun d => ∃ r : Nat, d = .int (r : Nat)) rfl (by omega) (by omega) fun r hr => ⟨r, rfl⟩) fun d1 p1 => egs1 (eg_more (n := 994) (m := 9) (P := fun d => ∃ m : Nat, (994 ≤ m ∧ m ≤ 1002) ∧ d = .int (m : Nat)) rfl (by omega) (by omega) fun r hr => ⟨994 + r, ⟨by omega, by omega⟩, rfl⟩) fun d2 p2 => egs0 ?_) H (Go.refl T0) _ ?_)
  · obtain ⟨a, rfl⟩ := p1
    obtain ⟨m, hm, rfl⟩ := p2
    exact ⟨a, m, hm, rfl⟩
  rintro vs ds H1 g1 s1 ⟨kd, m, ⟨hm1, hm2⟩, rfl⟩ ivs
  obtain ⟨u1, u2, rfl, j1, j2⟩ := ivs.two
  cases j1.i; cases j2.i
  refine ⟨_, _, rfl, ?_⟩
  show tSeq (tAsg _ _) _ _ [some (.ref t), some (.int (kd : Nat)), some (.int (m : Nat)), none] H1
  refine q_asgD (d := eStm oneS) (EvD.is (ed_tup (ea1 (ed_s _) (ea1 (ed_tup (ea1 (ed_s _) (ea1 (ed_i 0) ea0)) (by show 2 ≤ 100000; omega)) ea0)) (by show 2 ≤ 100000; omega)) e_one.symm) ?_
  intro v H2 e2 iv
  have g2 : Go t c H H2 := g1.ex e2
  show tSeq (tIfS _ _ _) _ _ [some (.ref t), some (.int (kd : Nat)), some (.int (m : Nat)), some v] H2
  have vone : ∀ {σ : L2.St} {H3 : Hp}, σ[3]? = some (some v) → Ex H2 H3 → EvD (tVar 3) σ H3 (eStm oneS) := fun h e => ed_var h (iv.mono e)
  have vm : ∀ {σ : L2.St} {H3 : Hp}, σ[2]? = some (some (.int (m : Nat))) → EvD (tVar 2) σ H3 (.int (m : Nat)) := fun h => ed_var h (.int _)
  have fin : ∀ {te : TE} {σ : L2.St} {H3 : Hp} (cnt : Nat) (bl : List Stm), Ex H2 H3 → TelOk cnt bl → EvD te σ H3 (eTel cnt bl) → tRet te { nx := fun _ H' => Q .non H', rt := Q } σ H3 := fun cnt bl e ok h => s_retD h fun v H4 e4 iv => kk v _ H4 (g2.ex (e.trans e4)) (by show (true && (still (eBlk bl) && true)) = true; rw [still_blk]; rfl) (hP cnt bl ok) iv
  have eadd : ∀ {i : Nat} {n : Int} {σ : L2.St} {H3 : Hp}, EvD (tTup (tCons (tC (.str "add")) (tCons (tC (.int (i : Nat))) (tCons (tC (.int n)) tNil)))) σ H3 (eStm (.add i n)) := EvD.is (ed_tup (ea1 (ed_s _) (ea1 (ed_i _) (ea1 (ed_i _) ea0))) (by show 3 ≤ 100000; omega)) (by rw [eStm])
  have ekeep : ∀ {i : Nat} {σ : L2.St} {H3 : Hp}, EvD (tTup (tCons (tC (.str "keep")) (tCons (tC (.int (i : Nat))) tNil))) σ H3 (eStm (.keep i)) := EvD.is (ed_tup (ea1 (ed_s _) (ea1 (ed_i _) ea0)) (by show 2 ≤ 100000; omega)) (by rw [eStm])
  have estop : ∀ {σ : L2.St} {H3 : Hp}, EvD (tTup (tCons (tC (.str "stop")) tNil)) σ H3 (eStm .stop) := EvD.is (ed_tup (ea1 (ed_s _) ea0) (by show 1 ≤ 100000; omega)) (by rw [eStm])
  have t1 : ∀ {te : TE} {σ : L2.St} {H3 : Hp} {d : PyData}, EvD te σ H3 d → EvD (tTup (tCons te tNil)) σ H3 (.tuple [d]) := fun h => ed_tup (ea1 h ea0) (by show 1 ≤ 100000; omega)
  have kz : ∀ (j : Int) {σ : L2.St} {H3 : Hp}, σ[1]? = some (some (.int (kd : Nat))) → EvT (tTest (tOp rEq (tVar 1) (tC (.int j)))) σ H3 (decide ((kd : Int) = j)) := fun j {_ _} h => et_D (ed_eqI (ed_var h (.int _)) (ed_i j))
  have add_ok : ∀ {i cnt : Nat} {n : Int}, i < cnt → StmOk cnt (.add i n) := fun h => by rw [StmOk]; exact h
  have keep_ok : ∀ {i cnt : Nat}, i < cnt → StmOk cnt (.keep i) := fun h => by rw [StmOk]; exact h
  have stop_ok : ∀ {cnt : Nat}, StmOk cnt .stop := by intro cnt; rw [StmOk]; trivial
  refine q_when (kz 0 rfl) (fun _ H3 e3 => fin 1 ([oneS] ++ List.replicate m (.add 0 1) ++ [oneS]) e3 ⟨by omega, ((BlkOk.one one_ok).app (BlkOk.rep (add_ok (by omega)) m)).app (BlkOk.one one_ok), fit_blk.mpr fun s hs => ?_⟩
    (EvD.is (ed_tup (ea1 (ed_i 1) (ea1 (ed_catA (ed_catA (t1 (vone rfl e3)) (ed_repW (t1 (eadd (i := 0) (n := 1))) (vm rfl) (by omega) (by omega)) (by rw [List.length_replicate]; show 1 + _ ≤ _; omega)) (t1 (vone rfl e3)) (by rw [List.length_append, List.length_replicate]; show 1 + _ + 1 ≤ _; omega)) ea0)) (by show 2 ≤ 100000; omega)) ?_)) ?_
  · simp only [List.mem_append, List.mem_singleton] at hs
    rcases hs with (rfl | hs) | rfl
    · exact fit_one.le (by omega)
    · rw [mem_rep hs]; exact fit_add.le (by omega)
    · exact fit_one.le (by omega)
  · simp [eTel, eBlk]
  intro _ H3 e3
  refine q_when (kz 1 rfl) (fun _ H4 e4 => fin 1 ([oneS] ++ List.replicate m (.keep 0)) (e3.trans e4) ⟨by omega, ((BlkOk.one one_ok).app (BlkOk.rep (keep_ok (by omega)) m)), fit_blk.mpr fun s hs => ?_⟩
    (EvD.is (ed_tup (ea1 (ed_i 1) (ea1 (ed_catA (t1 (vone rfl (e3.trans e4))) (ed_repW (t1 (ekeep (i := 0))) (vm rfl) (by omega) (by omega)) (by rw [List.length_replicate]; show 1 + _ ≤ _; omega)) ea0)) (by show 2 ≤ 100000; omega)) ?_)) ?_
  · simp only [List.mem_append, List.mem_singleton] at hs
    rcases hs with rfl | hs
    · exact fit_one.le (by omega)
    · rw [mem_rep hs]; exact fit_keep.le (by omega)
  · simp [eTel, eBlk]
  intro _ H4 e4
  have e24 := e3.trans e4
  refine q_when (kz 2 rfl) (fun _ H5 e5 => fin 1 (List.replicate m (.add 0 1) ++ [.stop, oneS]) (e24.trans e5) ⟨by omega, (BlkOk.rep (add_ok (by omega)) m).app ((BlkOk.one stop_ok).app (BlkOk.one one_ok)), fit_blk.mpr fun s hs => ?_⟩
    (EvD.is (ed_tup (ea1 (ed_i 1) (ea1 (ed_catA (es := [eStm .stop, eStm oneS]) (ed_repW (t1 (eadd (i := 0) (n := 1))) (vm rfl) (by omega) (by omega)) (ed_tup (ea1 estop (ea1 (vone rfl (e24.trans e5)) ea0)) (by show 2 ≤ 100000; omega)) (by rw [List.length_replicate]; show _ + 2 ≤ _; omega)) ea0)) (by show 2 ≤ 100000; omega)) ?_)) ?_
  · simp only [List.mem_append, List.mem_cons, List.not_mem_nil, or_false] at hs
    rcases hs with hs | rfl | rfl
    · rw [mem_rep hs]; exact fit_add.le (by omega)
    · exact fit_stop.le (by omega)
    · exact fit_one.le (by omega)
  · simp [eTel, eBlk]
  intro _ H5 e5
  have e25 := e24.trans e5
  refine q_when (kz 3 rfl) ?_ ?_
  · intro _ H6 e6
    have e26 := e25.trans e6
    have g6 : Go t c H H6 := g2.ex e26
    refine s_retG (P := PP) g6.2 (eg_t2 (P1 := fun d => d = .int ((2 : Nat) : Int)) (P2 := fun d => ∃ bl, TelOk 2 bl ∧ d = eBlk bl) (eg_i _ rfl) (eg_t4 (P1 := fun d => d = eStm oneS) (P2 := fun d => d = eStm (.add 1 1)) (P3 := fun d => ∃ q : Int, d = eStm (.while_ (.less 0 q) [.add 0 1])) (P4 := fun d => d = eStm oneS)
      (eg_var rfl (iv.mono e26) (still_stm _) rfl) (eg_d (fun H7 g7 => eadd (i := 1) (n := 1)) (still_stm _) rfl) (eg_t3 (P1 := fun d => d = .str "while") (P2 := fun d => ∃ q : Int, d = eTst (.less 0 q)) (P3 := fun d => d = .tuple [eStm (.add 0 1)]) (eg_s _ rfl)
        (eg_t3 (P1 := fun d => d = .str "less") (P2 := fun d => d = .int 0) (P3 := IntP) (eg_s _ rfl) (eg_i _ rfl) (eg_more (n := 330) (m := 5) rfl (by omega) (by omega) fun r hr => ⟨_, rfl⟩) ?_) (eg_t1 (P1 := fun d => d = eStm (.add 0 1)) (eg_d (fun H7 g7 => eadd (i := 0) (n := 1)) (still_stm _) rfl) ?_) ?_) (eg_var rfl (iv.mono e26) (still_stm _) rfl) ?_) ?_) fun v d H7 g7 s7 p7 iv7 => kk v d H7 (g6.trans g7) s7 p7 iv7
    · rintro _ _ _ rfl rfl ⟨q, rfl⟩
      exact ⟨q, rfl⟩
    · rintro _ rfl; rfl
    · rintro _ _ _ rfl ⟨q, rfl⟩ rfl
      refine ⟨q, ?_⟩
      show _ = eStm _
      rw [show eStm (.while_ (.less 0 q) [.add 0 1]) = .tuple [.str "while", eTst (.less 0 q), .tuple (eStms [.add 0 1])] by rw [eStm], eStms, eStms]
    · rintro _ _ _ _ rfl rfl ⟨q, rfl⟩ rfl
      refine ⟨[oneS, .add 1 1, .while_ (.less 0 q) [.add 0 1], oneS], ⟨by omega, ?_, ?_⟩, rfl⟩
      · refine (BlkOk.one one_ok).app (b := [.add 1 1, .while_ (.less 0 q) [.add 0 1], oneS]) ((BlkOk.one (add_ok (by omega))).app (b := [.while_ (.less 0 q) [.add 0 1], oneS]) ((BlkOk.one ?_).app (BlkOk.one one_ok)))
        rw [StmOk]
        exact ⟨⟨Nat.zero_le _, (by show 0 < 2; omega)⟩, BlkOk.one (add_ok (by omega))⟩
      · refine fit_blk.mpr fun s hs => ?_
        simp only [List.mem_cons, List.not_mem_nil, or_false] at hs
        rcases hs with rfl | rfl | rfl | rfl
        · exact fit_one.le (by omega)
        · exact fit_add.le (by omega)
        · exact (fit_while (n := 4) (t := .less 0 q) (Nat.zero_le _) trivial (by omega) (fit_blk.mpr fun s hs => by cases List.mem_singleton.mp hs; exact fit_add)).le (by omega)
        · exact fit_one.le (by omega)
    · rintro _ _ rfl ⟨bl, ok, rfl⟩
      exact hP 2 bl ok
  · intro _ H6 e6
    have e26 := e25.trans e6
    have hm3 : (m : Int) - 3 = ((m - 3 : Nat) : Int) := by omega
    refine fin 1 [oneS, .if_ .tru [] (List.replicate (m - 3) (.add 0 2)), oneS, .stop] e26 ⟨by omega, ?_, fit_blk.mpr fun s hs => ?_⟩ (EvD.is (ed_tup (ea1 (ed_i 1) (ea1 (ed_tup (ea1 (vone rfl e26) (ea1 (ed_tup (ea1 (ed_s _) (ea1 (ed_tup (ea1 (ed_s _) ea0) (by show 1 ≤ 100000; omega)) (ea1 (ed_tup ea0 (by show 0 ≤ 100000; omega)) (ea1 (ed_repW (t1 (eadd (i := 0) (n := 2))) (EvD.is (ed_I0 (g := fun i j => i - j) (vm rfl) (ed_i 3)) (by rw [hm3])) (by omega) (by omega)) ea0)))) (by show 4 ≤ 100000; omega)) (ea1 (vone rfl e26) (ea1 estop ea0)))) (by show 4 ≤ 100000; omega)) ea0)) (by show 2 ≤ 100000; omega)) ?_)
    · refine (BlkOk.one one_ok).app (b := [.if_ .tru [] (List.replicate (m - 3) (.add 0 2)), oneS, .stop]) ((BlkOk.one ?_).app (b := [oneS, .stop]) ((BlkOk.one one_ok).app (BlkOk.one stop_ok)))
      rw [StmOk]
      exact ⟨⟨Nat.zero_le _, trivial⟩, BlkOk.nil, BlkOk.rep (add_ok (by omega)) _⟩
    · simp only [List.mem_cons, List.not_mem_nil, or_false] at hs
      rcases hs with rfl | rfl | rfl | rfl
      · exact fit_one.le (by omega)
      · exact (fit_if (n := 4) (t := .tru) (Nat.zero_le _) trivial (by omega) (fit_blk.mpr fun s hs => absurd hs List.not_mem_nil) (fit_blk.mpr fun s hs => by rw [mem_rep hs]; exact fit_add)).le (by omega)
      · exact fit_one.le (by omega)
      · exact fit_stop.le (by omega)
    · have e1 : eStm (.if_ .tru [] (List.replicate (m - 3) (.add 0 2))) = .tuple [.str "if", .tuple [.str "true"], .tuple [], .tuple (List.replicate (m - 3) (eStm (.add 0 2)))] := by
        conv => lhs; rw [eStm, eStms_map, eStms_map]
        rw [List.map_replicate]; rfl
      show _ = PyData.tuple [_, .tuple [eStm oneS, eStm (.if_ .tru [] (List.replicate (m - 3) (.add 0 2))), eStm oneS, eStm .stop]]
      rw [e1]
      rfl
end
end K97
set_option Elab.async false
set_option linter.all false
set_option maxRecDepth 100000
set_option maxHeartbeats 4000000
namespace K97
open PySem PySem.Spec PyProof.Rows L2 Evl Pd
/-! ### the law's answers -/
def ansList : List Ans := [("ok", none), ("none", none), ("range", none), ("full", none), ("value", some .none), ("value", some (.int 3)), ("value", some (.int (10 ^ 18 - 1))), ("value", some (.int (1 - 10 ^ 18))), ("size", some (.int 1)), ("size", some (.int 2)), ("size", some (.int (10 ^ 9))), ("same", some (.bool true)), ("same", some (.bool false)), ("ok", none), ("ok", none)]
def LastG : Option Ans → Prop
  | none => True
  | some a => a ∈ ansList
theorem LastG.cases {p : Option Ans → Prop} {a : Option Ans} (h : LastG a) (h0 : p none) (h1 : ∀ w, w ∈ (["ok", "none", "range", "full"] : List Str) → p (some (w, none))) (h2 : p (some ("value", some .none))) (h3 : ∀ i, p (some ("value", some (.int i)))) (h4 : ∀ i, p (some ("size", some (.int i)))) (h5 : ∀ b, p (some ("same", some (.bool b)))) : p a := by
  cases a with
  | none => exact h0
  | some a =>
    have h' : a ∈ ansList := h
    simp only [ansList, List.mem_cons, List.not_mem_nil, or_false] at h'
    rcases h' with rfl | rfl | rfl | rfl | rfl | rfl | rfl | rfl | rfl | rfl | rfl | rfl | rfl | rfl | rfl <;> first | exact h2 | exact h3 _ | exact h4 _ | exact h5 _ | exact h1 _ (by simp)
theorem LastG.still {a : Option Ans} (h : LastG a) : still (eLast a) = true := h.cases (p := fun a => Pd.still (eLast a) = true) rfl (fun _ _ => rfl) rfl (fun _ => rfl) (fun _ => rfl) (fun _ => rfl)
theorem okw4 : ∀ w ∈ (["ok", "none", "range", "full"] : List Str), PyData.strOk w = true := by decide +kernel
theorem LastG.oks {a : Option Ans} (h : LastG a) : OkS 1 (eLast a) := by
  have two : ∀ {x y : PyData}, OkS 0 x → OkS 0 y → OkS 1 (.tuple [x, y]) := fun hx hy => .tup 0 _ (by show 2 ≤ 1000; omega) fun d hd => by
    simp only [List.mem_cons, List.not_mem_nil, or_false] at hd
    rcases hd with rfl | rfl
    · exact hx
    · exact hy
  refine h.cases (p := fun a => OkS 1 (eLast a)) (.non 1) (fun w hw => .tup 0 _ (by show 1 ≤ 1000; omega) fun d hd => ?_) (two (.str 0 _ (by decide +kernel)) (.non 0)) (fun i => two (.str 0 _ (by decide +kernel)) (.int 0 i)) (fun i => two (.str 0 _ (by decide +kernel)) (.int 0 i)) (fun b => two (.str 0 _ (by decide +kernel)) (.bool 0 b))
  cases List.mem_singleton.mp hd
  exact .str 0 w (okw4 w hw)
theorem OkS.shaped {n : Nat} {d : PyData} (h : OkS n d) : n ≤ 60 → Fit n d := by
  induction h with
  | str n s hs => intro _; exact fit_str hs
  | int n i => intro _; exact fit_int _ _
  | bool n b => intro _; exact ⟨by rw [PyData.canLay0], by rw [PyData.depth]; omega⟩
  | non n => intro _; exact ⟨by rw [PyData.canLay0], by rw [PyData.depth]; omega⟩
  | tup n ds hl hm ih => intro hn; exact fit_tup.mpr fun d hd => ih d hd (by omega)
theorem LastG.ok {a : Option Ans} (h : LastG a) : LastOk a := ((h.oks.shaped (by omega)).le (by omega)).shaped
theorem oks_ints {cs : List Int} (h : cs.length ≤ 1000) : OkS 1 (eI cs) := .tup 0 _ (by rw [List.length_map]; exact h) fun d hd => by
  obtain ⟨i, _, rfl⟩ := List.mem_map.mp hd
  exact .int 0 i
theorem oks_op {c : Nat} {cs : List Int} {o : OpT} (h : OpTOk c o) : OkS 1 (eOpT (fillO cs o)) := by
  cases o with
  | plain w ns =>
    have hl := plain_len h
    exact .tup 0 _ (by rw [List.length_cons, List.length_map]; omega) fun d hd => by
      rcases List.mem_cons.mp hd with rfl | hd
      · exact .str 0 _ (plain_ok h)
      · obtain ⟨i, _, rfl⟩ := List.mem_map.mp hd
        exact .int 0 i
  | setc r k i =>
    exact .tup 0 _ (by show 4 ≤ 1000; omega) fun d hd => by
      simp only [List.map_cons, List.map_nil, List.mem_cons, List.not_mem_nil, or_false] at hd
      rcases hd with rfl | rfl | rfl | rfl
      · exact .str 0 _ (by decide +kernel)
      · exact .int 0 _
      · exact .int 0 _
      · exact .int 0 _
/-! ### the law's teller at work -/
def vk (cl : Addr) (lv : V) (fl : Addr) (w : Str) (dl al : Addr) : List (Key × V) := [(.inr "counters", .ref cl), (.inr "last", lv), (.inr "frames", .ref fl), (.inr "word", .str w), (.inr "done", .ref dl), (.inr "answers", .ref al)]
section
variable {cl fl dl al : Addr} {lv : V} {w : Str}
theorem vk_counters : valV (vk cl lv fl w dl al) (.inr "counters") = some (.ref cl) := valV_pos rfl
theorem vk_last : valV (vk cl lv fl w dl al) (.inr "last") = some lv := (valV_neg (keyne (by decide +kernel))).trans (valV_pos rfl)
theorem vk_frames : valV (vk cl lv fl w dl al) (.inr "frames") = some (.ref fl) := (valV_neg (keyne (by decide +kernel))).trans ((valV_neg (keyne (by decide +kernel))).trans (valV_pos rfl))
theorem vk_word : valV (vk cl lv fl w dl al) (.inr "word") = some (.str w) := (valV_neg (keyne (by decide +kernel))).trans ((valV_neg (keyne (by decide +kernel))).trans ((valV_neg (keyne (by decide +kernel))).trans (valV_pos rfl)))
theorem vk_done : valV (vk cl lv fl w dl al) (.inr "done") = some (.ref dl) := (valV_neg (keyne (by decide +kernel))).trans ((valV_neg (keyne (by decide +kernel))).trans ((valV_neg (keyne (by decide +kernel))).trans ((valV_neg (keyne (by decide +kernel))).trans (valV_pos rfl))))
theorem vk_answers : valV (vk cl lv fl w dl al) (.inr "answers") = some (.ref al) := (valV_neg (keyne (by decide +kernel))).trans ((valV_neg (keyne (by decide +kernel))).trans ((valV_neg (keyne (by decide +kernel))).trans ((valV_neg (keyne (by decide +kernel))).trans ((valV_neg (keyne (by decide +kernel))).trans (valV_pos rfl)))))
theorem put_there {kvs : List (Key × V)} {k : Key} {v v0 : V} (h : valV kvs k = some v0) : putK kvs k v = kvs.map fun kv => if kv.1 = k then (kv.1, v) else kv := by
  unfold putK
  rw [valV_any, h]; rfl
theorem vk_put_word {w' : Str} : putK (vk cl lv fl w dl al) (.inr "word") (.str w') = vk cl lv fl w' dl al := by
  rw [put_there vk_word]
  simp only [vk, List.map_cons, List.map_nil]
  rw [if_neg (keyne (by decide +kernel)), if_neg (keyne (by decide +kernel)), if_neg (keyne (by decide +kernel)), if_pos trivial, if_neg (keyne (by decide +kernel)), if_neg (keyne (by decide +kernel))]
theorem vk_put_last {v : V} : putK (vk cl lv fl w dl al) (.inr "last") v = vk cl v fl w dl al := by
  rw [put_there vk_last]
  simp only [vk, List.map_cons, List.map_nil]
  rw [if_neg (keyne (by decide +kernel)), if_pos trivial, if_neg (keyne (by decide +kernel)), if_neg (keyne (by decide +kernel)), if_neg (keyne (by decide +kernel)), if_neg (keyne (by decide +kernel))]
theorem vk_put_frames {f : Addr} : putK (vk cl lv fl w dl al) (.inr "frames") (.ref f) = vk cl lv f w dl al := by
  rw [put_there vk_frames]
  simp only [vk, List.map_cons, List.map_nil]
  rw [if_neg (keyne (by decide +kernel)), if_neg (keyne (by decide +kernel)), if_pos trivial, if_neg (keyne (by decide +kernel)), if_neg (keyne (by decide +kernel)), if_neg (keyne (by decide +kernel))]
theorem vk_merge : mergeK [] (vk cl lv fl w dl al) = vk cl lv fl w dl al := by
  have s0 : putK ([] : List (Key × V)) (.inr "counters") (.ref cl) = [(.inr "counters", .ref cl)] := putK_new _ rfl
  have s1 : putK ([(.inr "counters", .ref cl)] : List (Key × V)) (.inr "last") (lv) = [(.inr "counters", .ref cl), (.inr "last", lv)] := putK_new _ ((valV_neg (keyne (by decide +kernel))).trans rfl)
  have s2 : putK ([(.inr "counters", .ref cl), (.inr "last", lv)] : List (Key × V)) (.inr "frames") (.ref fl) = [(.inr "counters", .ref cl), (.inr "last", lv), (.inr "frames", .ref fl)] := putK_new _ ((valV_neg (keyne (by decide +kernel))).trans ((valV_neg (keyne (by decide +kernel))).trans rfl))
  have s3 : putK ([(.inr "counters", .ref cl), (.inr "last", lv), (.inr "frames", .ref fl)] : List (Key × V)) (.inr "word") (.str w) = [(.inr "counters", .ref cl), (.inr "last", lv), (.inr "frames", .ref fl), (.inr "word", .str w)] := putK_new _ ((valV_neg (keyne (by decide +kernel))).trans ((valV_neg (keyne (by decide +kernel))).trans ((valV_neg (keyne (by decide +kernel))).trans rfl)))
  have s4 : putK ([(.inr "counters", .ref cl), (.inr "last", lv), (.inr "frames", .ref fl), (.inr "word", .str w)] : List (Key × V)) (.inr "done") (.ref dl) = [(.inr "counters", .ref cl), (.inr "last", lv), (.inr "frames", .ref fl), (.inr "word", .str w), (.inr "done", .ref dl)] := putK_new _ ((valV_neg (keyne (by decide +kernel))).trans ((valV_neg (keyne (by decide +kernel))).trans ((valV_neg (keyne (by decide +kernel))).trans ((valV_neg (keyne (by decide +kernel))).trans rfl))))
  have s5 : putK ([(.inr "counters", .ref cl), (.inr "last", lv), (.inr "frames", .ref fl), (.inr "word", .str w), (.inr "done", .ref dl)] : List (Key × V)) (.inr "answers") (.ref al) = [(.inr "counters", .ref cl), (.inr "last", lv), (.inr "frames", .ref fl), (.inr "word", .str w), (.inr "done", .ref dl), (.inr "answers", .ref al)] := putK_new _ ((valV_neg (keyne (by decide +kernel))).trans ((valV_neg (keyne (by decide +kernel))).trans ((valV_neg (keyne (by decide +kernel))).trans ((valV_neg (keyne (by decide +kernel))).trans ((valV_neg (keyne (by decide +kernel))).trans rfl)))))
  show putK (putK (putK (putK (putK (putK ([] : List (Key × V)) (.inr "counters") (.ref cl)) (.inr "last") lv) (.inr "frames") (.ref fl)) (.inr "word") (.str w)) (.inr "done") (.ref dl)) (.inr "answers") (.ref al) = _
  rw [s0, s1, s2, s3, s4, s5]
  rfl
end
structure VA (d cl fl dl al : Addr) (cs : List Int) (la : Option Ans) (fs : List Frm) (w : Str) (n : Nat) (H : Hp) : Prop where
  hd : ∃ lv, H d = some (.dK (vk cl lv fl w dl al)) ∧ Im H lv (eLast la)
  hc : H cl = some (.lst (cs.map V.int))
  hf : ∃ frs, H fl = some (.lst frs) ∧ Ims H frs (fs.map eFrm)
  hdn : ∃ dn, H dl = some (.lst dn) ∧ dn.length ≤ n
  han : ∃ an, H al = some (.lst an) ∧ an.length ≤ n
  ne : cl ≠ fl ∧ cl ≠ dl ∧ cl ≠ al ∧ fl ≠ dl ∧ fl ≠ al ∧ dl ≠ al
  lg : LastG la
section
variable {d cl fl dl al : Addr} {cs cs' : List Int} {la la' : Option Ans} {fs fs' : List Frm} {w w' : Str} {n : Nat} {H H' : Hp}
theorem still_frms (fs : List Frm) : stills (fs.map eFrm) = true := stills_ofm fun x hx => by
  obtain ⟨f, _, rfl⟩ := List.mem_map.mp hx
  show (still (eBlk f.1) && true) = true
  rw [still_blk]; rfl
theorem ne_lst_dk {a b : Addr} {xs : List V} {kvs : List (Key × V)} (h1 : H a = some (.lst xs)) (h2 : H b = some (.dK kvs)) : a ≠ b := fun z => by rw [z, h2] at h1; cases h1
theorem VA.ex (h : VA d cl fl dl al cs la fs w n H) (e : Ex H H') : VA d cl fl dl al cs la fs w n H' := by
  obtain ⟨⟨lv, h1, h2⟩, h3, ⟨frs, h4, h5⟩, ⟨dn, h6, h7⟩, ⟨an, h8, h9⟩, ne, lg⟩ := h
  exact ⟨⟨lv, e _ _ h1, h2.mono e⟩, e _ _ h3, ⟨frs, e _ _ h4, h5.mono e⟩, ⟨dn, e _ _ h6, h7⟩, ⟨an, e _ _ h8, h9⟩, ne, lg⟩
/-- what changes others leaves it -/
theorem VA.keep {M : List Addr} (h : VA d cl fl dl al cs la fs w n H) (e : ExM M H H') (hm : ∀ a ∈ [d, cl, fl, dl, al], a ∉ M) : VA d cl fl dl al cs la fs w n H' := by
  obtain ⟨⟨lv, h1, h2⟩, h3, ⟨frs, h4, h5⟩, ⟨dn, h6, h7⟩, ⟨an, h8, h9⟩, ne, lg⟩ := h
  exact ⟨⟨lv, e.1 _ _ (hm _ (by simp)) h1, h2.tx e.2 lg.still⟩, e.1 _ _ (hm _ (by simp)) h3, ⟨frs, e.1 _ _ (hm _ (by simp)) h4, h5.tx e.2 (still_frms fs)⟩, ⟨dn, e.1 _ _ (hm _ (by simp)) h6, h7⟩, ⟨an, e.1 _ _ (hm _ (by simp)) h8, h9⟩, ne, lg⟩
theorem VA.le {m : Nat} (h : VA d cl fl dl al cs la fs w n H) (hm : n ≤ m) : VA d cl fl dl al cs la fs w m H := by
  obtain ⟨h1, h3, h4, ⟨dn, h6, h7⟩, ⟨an, h8, h9⟩, ne, lg⟩ := h
  exact ⟨h1, h3, h4, ⟨dn, h6, by omega⟩, ⟨an, h8, by omega⟩, ne, lg⟩
theorem VA.set_c (h : VA d cl fl dl al cs la fs w n H) {xs : List V} (hx : xs = cs'.map V.int) : VA d cl fl dl al cs' la fs w n (upd H cl (.lst xs)) := by
  obtain ⟨⟨lv, h1, h2⟩, h3, ⟨frs, h4, h5⟩, ⟨dn, h6, h7⟩, ⟨an, h8, h9⟩, ne, lg⟩ := h
  have tx := tx_lst (ys := xs) h3
  exact ⟨⟨lv, by rw [upd_ne (ne_lst_dk h3 h1).symm]; exact h1, h2.tx tx lg.still⟩, by rw [upd_same, hx], ⟨frs, by rw [upd_ne ne.1.symm]; exact h4, h5.tx tx (still_frms fs)⟩, ⟨dn, by rw [upd_ne ne.2.1.symm]; exact h6, h7⟩, ⟨an, by rw [upd_ne ne.2.2.1.symm]; exact h8, h9⟩, ne, lg⟩
theorem VA.set_f (h : VA d cl fl dl al cs la fs w n H) {frs' : List V} (hx : Ims H frs' (fs'.map eFrm)) : VA d cl fl dl al cs la fs' w n (upd H fl (.lst frs')) := by
  obtain ⟨⟨lv, h1, h2⟩, h3, ⟨frs, h4, h5⟩, ⟨dn, h6, h7⟩, ⟨an, h8, h9⟩, ne, lg⟩ := h
  have tx := tx_lst (ys := frs') h4
  exact ⟨⟨lv, by rw [upd_ne (ne_lst_dk h4 h1).symm]; exact h1, h2.tx tx lg.still⟩, by rw [upd_ne ne.1]; exact h3, ⟨frs', upd_same, hx.tx tx (still_frms fs')⟩, ⟨dn, by rw [upd_ne ne.2.2.2.1.symm]; exact h6, h7⟩, ⟨an, by rw [upd_ne ne.2.2.2.2.1.symm]; exact h8, h9⟩, ne, lg⟩
theorem VA.app_d (h : VA d cl fl dl al cs la fs w n H) {dn : List V} {v : V} (hx : H dl = some (.lst dn)) : VA d cl fl dl al cs la fs w (n + 1) (upd H dl (.lst (dn ++ [v]))) := by
  obtain ⟨⟨lv, h1, h2⟩, h3, ⟨frs, h4, h5⟩, ⟨dn', h6, h7⟩, ⟨an, h8, h9⟩, ne, lg⟩ := h
  rw [hx] at h6
  cases h6
  have tx := tx_lst (ys := dn ++ [v]) hx
  exact ⟨⟨lv, by rw [upd_ne (ne_lst_dk hx h1).symm]; exact h1, h2.tx tx lg.still⟩, by rw [upd_ne ne.2.1]; exact h3, ⟨frs, by rw [upd_ne ne.2.2.2.1]; exact h4, h5.tx tx (still_frms fs)⟩, ⟨_, upd_same, by rw [List.length_append]; show _ + 1 ≤ _; omega⟩, ⟨an, by rw [upd_ne ne.2.2.2.2.2.symm]; exact h8, by omega⟩, ne, lg⟩
theorem VA.app_a (h : VA d cl fl dl al cs la fs w n H) {an : List V} {v : V} (hx : H al = some (.lst an)) : VA d cl fl dl al cs la fs w (n + 1) (upd H al (.lst (an ++ [v]))) := by
  obtain ⟨⟨lv, h1, h2⟩, h3, ⟨frs, h4, h5⟩, ⟨dn, h6, h7⟩, ⟨an', h8, h9⟩, ne, lg⟩ := h
  rw [hx] at h8
  cases h8
  have tx := tx_lst (ys := an ++ [v]) hx
  exact ⟨⟨lv, by rw [upd_ne (ne_lst_dk hx h1).symm]; exact h1, h2.tx tx lg.still⟩, by rw [upd_ne ne.2.2.1]; exact h3, ⟨frs, by rw [upd_ne ne.2.2.2.2.1]; exact h4, h5.tx tx (still_frms fs)⟩, ⟨dn, by rw [upd_ne ne.2.2.2.2.2]; exact h6, by omega⟩, ⟨_, upd_same, by rw [List.length_append]; show _ + 1 ≤ _; omega⟩, ne, lg⟩
/-- a key of the dict is set -/
theorem VA.set_d {f' : Addr} {lv' : V} (h : VA d cl fl dl al cs la fs w n H) (hl : Im H lv' (eLast la')) (lg' : LastG la') (hf : (∃ frs, H f' = some (.lst frs) ∧ Ims H frs (fs'.map eFrm))) (ne' : cl ≠ f' ∧ f' ≠ dl ∧ f' ≠ al) : VA d cl f' dl al cs la' fs' w' n (upd H d (.dK (vk cl lv' f' w' dl al))) := by
  obtain ⟨⟨lv, h1, h2⟩, h3, _, ⟨dn, h6, h7⟩, ⟨an, h8, h9⟩, ne, lg⟩ := h
  obtain ⟨frs, h4, h5⟩ := hf
  have tx := tx_dk (o := .dK (vk cl lv' f' w' dl al)) h1
  exact ⟨⟨lv', upd_same, hl.tx tx lg'.still⟩, by rw [upd_ne (ne_lst_dk h3 h1)]; exact h3, ⟨frs, by rw [upd_ne (ne_lst_dk h4 h1)]; exact h4, h5.tx tx (still_frms fs')⟩, ⟨dn, by rw [upd_ne (ne_lst_dk h6 h1)]; exact h6, h7⟩, ⟨an, by rw [upd_ne (ne_lst_dk h8 h1)]; exact h8, h9⟩, ⟨ne'.1, ne.2.1, ne.2.2.1, ne'.2.1, ne'.2.2, ne.2.2.2.2.2⟩, lg'⟩
-- what it tells
variable {σ : L2.St} {i : Nat}
theorem VA.e_counters (h : VA d cl fl dl al cs la fs w n H) (hs : σ[i]? = some (some (.ref d))) : Ev (tDGet (tVar i) (tC (.str "counters"))) σ H (.ref cl) := by
  obtain ⟨lv, h1, _⟩ := h.hd
  exact ev_dget hs h1 vk_counters
theorem VA.d_counters (h : VA d cl fl dl al cs la fs w n H) (hs : σ[i]? = some (some (.ref d))) : EvD (tDGet (tVar i) (tC (.str "counters"))) σ H (.list (cs.map .int)) := EvD.of_ev (h.e_counters hs) (.lst h.hc (Ims.ofInts cs))
theorem VA.e_frames (h : VA d cl fl dl al cs la fs w n H) (hs : σ[i]? = some (some (.ref d))) : Ev (tDGet (tVar i) (tC (.str "frames"))) σ H (.ref fl) := by
  obtain ⟨lv, h1, _⟩ := h.hd
  exact ev_dget hs h1 vk_frames
theorem VA.e_done (h : VA d cl fl dl al cs la fs w n H) (hs : σ[i]? = some (some (.ref d))) : Ev (tDGet (tVar i) (tC (.str "done"))) σ H (.ref dl) := by
  obtain ⟨lv, h1, _⟩ := h.hd
  exact ev_dget hs h1 vk_done
theorem VA.e_answers (h : VA d cl fl dl al cs la fs w n H) (hs : σ[i]? = some (some (.ref d))) : Ev (tDGet (tVar i) (tC (.str "answers"))) σ H (.ref al) := by
  obtain ⟨lv, h1, _⟩ := h.hd
  exact ev_dget hs h1 vk_answers
theorem VA.d_last (h : VA d cl fl dl al cs la fs w n H) (hs : σ[i]? = some (some (.ref d))) : EvD (tDGet (tVar i) (tC (.str "last"))) σ H (eLast la) := by
  obtain ⟨lv, h1, h2⟩ := h.hd
  exact ed_dget hs h1 vk_last h2
theorem VA.d_word (h : VA d cl fl dl al cs la fs w n H) (hs : σ[i]? = some (some (.ref d))) : EvD (tDGet (tVar i) (tC (.str "word"))) σ H (.str w) := by
  obtain ⟨lv, h1, _⟩ := h.hd
  exact ed_dget hs h1 vk_word (.str w)
end
def sp_voice : Sp := fun vs H Q _ => ∃ (v : V) (cnt : Nat) (b : List Stm), vs = [v] ∧ Im H v (eTel cnt b) ∧ cnt ≤ 1000 ∧ ∀ d cl fl dl al H', VA d cl fl dl al (List.replicate cnt 0) none [(b, 0)] "open" 0 H' → (∀ a ∈ [d, cl, fl, dl, al], H a = none) → Ex H H' → Q (.ref d) H'
def sp_hold2 : Sp := SpQ fun ds d => ∃ (t : Tst) (cs : List Int) (a : Option Ans), ds = [eTst t, .list (cs.map .int), eLast a] ∧ t.deep ≤ 2 ∧ TstOk cs.length t ∧ LastG a ∧ d = .bool (hold cs a t)
def sp_counted : Sp := fun vs H Q _ => ∃ (d cl fl dl al : Addr) (cs : List Int) (la : Option Ans) (fs : List Frm) (w : Str) (n : Nat) (i : Nat) (q : Int), vs = [.ref d, .int (i : Nat), .int q] ∧ VA d cl fl dl al cs la fs w n H ∧ i < cs.length ∧
  ∀ H', VA d cl fl dl al (cs.set i (clip q)) la fs w n H' → ExM [d, cl, fl, dl, al] H H' → Q .non H'
def sp_hear : Sp := fun vs H Q _ => ∃ (d cl fl dl al : Addr) (cs : List Int) (la : Option Ans) (fs : List Frm) (w : Str) (n : Nat) (v : V) (a : Ans), vs = [.ref d, v] ∧ VA d cl fl dl al cs la fs w n H ∧ n ≤ 1000 ∧ Im H v (eAns a) ∧ a ∈ ansList ∧
  ∀ H', VA d cl fl dl al cs (some a) fs w (n + 1) H' → ExM [d, cl, fl, dl, al] H H' → Q .non H'
def sp_shows : Sp := fun vs H Q _ => ∃ (d cl fl dl al : Addr) (s : Sta) (fs : List Frm) (w : Str) (n : Nat) (v : V), vs = [v, .ref d] ∧ VA d cl fl dl al s.cs s.last fs w n H ∧ Im H v (eSta s) ∧ s.cs.length ≤ 1000 ∧ ∀ H', Ex H H' → Q (.bl true) H'
section
variable {P : Program} {w : World} {K : PySem.W.Frag} {mg : Str → Option Value} {base : Heap}
theorem cal__law_counted (S : Src K mg "_law_counted" st__law_counted ["voice", "index", "number"]) (T : Txt K mg) : Cal P w K mg base CX0 1 "_law_counted" ["voice", "index", "number"] sp_counted := by
  have sc := sc__law_counted
  refine S.cal (k := 0) sc (fun vs H Q E h => by obtain ⟨_, _, _, _, _, _, _, _, _, _, _, _, rfl, _⟩ := h; rfl) (fun f cdv A outer s H vs Q E hr h => ⟨_, (pss_cons (ps_set (i := 3) sc.nd rfl (by first | exact Or.inl rfl | exact Or.inr rfl) (pe_dget (hu_of hr) (pv 0) pe_str (fun _ _ => rfl)))
  (pss_one (ps_asg (pe_ifExp (pt_cmpR op_lt (pe_callB call_abs (by rfl) T.n_abs (by decide +kernel) (pa_cons (pv 2) pa_nil)) (pe_op op_pow pe_int pe_int) (nomark _)) (pv 2) pe_int) (pg_sub (pv 3) (pv 1) set_list)))), ?_⟩)
  obtain ⟨d, cl, fl, dl, al, cs, la, fs, wd, n, i, q, rfl, va, hi, kk⟩ := h
  refine q_asg (va.e_counters rfl) ?_
  intro H1 e1
  have va1 := va.ex e1
  show tAsg _ _ _ [some (.ref d), some (.int (i : Nat)), some (.int q), some (.ref cl)] H1
  refine s_setL (xs := cs.map V.int) (j := i) (v := .int (clip q)) va1.hc (EvD.evI (ed_if (d := .int (clip q)) (b := decide ((if q < 0 then -q else q) < 1000000000000000000)) (et_is (et_D (ed_B0 (g := fun i j => decide (i < j)) (ed_abs (ed_var rfl (.int q))) (ed_big 10 18 cp18))) (by rfl)) (fun h => ?_) (fun h => ?_))) (ev_var rfl) (ev_var rfl) (by rw [List.length_map]; exact hi) ?_
  · have : clip q = q := by unfold clip; rw [if_pos (of_decide_eq_true h)]
    rw [this]; exact ed_var rfl (.int q)
  · have : clip q = 0 := by unfold clip; rw [if_neg (of_decide_eq_false h)]
    rw [this]; exact ed_i 0
  intro H2 e2
  have va2 := va1.ex e2
  exact kk _ (va2.set_c (by rw [List.map_set])) ((ExM.of (e1.trans e2)).trans (ExM.upd va2.hc (by simp)))
theorem cal__law_hear (S : Src K mg "_law_hear" st__law_hear ["voice", "answer"]) (T : Txt K mg) : Cal P w K mg base CX0 1 "_law_hear" ["voice", "answer"] sp_hear := by
  have sc := sc__law_hear
  refine S.cal (k := 0) sc (fun vs H Q E h => by obtain ⟨_, _, _, _, _, _, _, _, _, _, _, _, rfl, _⟩ := h; rfl) (fun f cdv A outer s H vs Q E hr h => ⟨_, (pss_cons (ps_expr (k_append (K := K) rfl (pe_dget (hu_of hr) (pv 0) pe_str (fun _ _ => rfl)) (pa_cons (pv 1) pa_nil)))
  (pss_one (ps_dput (hu_of hr) (pv 0) pe_str (pv 1) rfl))), ?_⟩)
  obtain ⟨d, cl, fl, dl, al, cs, la, fs, wd, n, v, a, rfl, va, hn, iv, ha, kk⟩ := h
  obtain ⟨an, ha1, ha2⟩ := va.han
  have sa : still (eAns a) = true := (show LastG (some a) from ha).still
  refine q_appA ha1 (va.e_answers rfl) (ed_var rfl iv) (by omega) ?_
  intro v1 H1 e1 hal iv1
  have va1 := (va.ex e1).app_a (v := v1) hal
  obtain ⟨lv, h1, h2⟩ := va1.hd
  have iv2 : Im (upd H1 al (.lst (an ++ [v1]))) v (eAns a) := (iv.mono e1).tx (tx_lst hal) sa
  show sDPut _ _ _ _ [some (.ref d), some v] _
  refine s_dputD (d := eAns a) rfl h1 (by show 6 < 100000; omega) (ed_var rfl iv2) ?_
  intro v3 H3 e3 iv3 hd3
  rw [vk_put_last]
  have va3 := va1.ex e3
  have em : ExM [d, cl, fl, dl, al] H H3 := ((ExM.of e1).trans (ExM.upd hal (by simp))).trans (ExM.of e3)
  exact kk _ (va3.set_d (la' := some a) iv3 ha va3.hf ⟨va3.ne.1, va3.ne.2.2.2.1, va3.ne.2.2.2.2.1⟩) (em.trans (ExM.updD hd3 (by simp)))
theorem cal__law_shows (S : Src K mg "_law_shows" st__law_shows ["state", "voice"]) (T : Txt K mg) (C__law_same : Cal P w K mg base CX0 4 "_law_same" ["one", "other"] (sp_same 3)) : Cal P w K mg base CX0 5 "_law_shows" ["state", "voice"] sp_shows := by
  have sc := sc__law_shows
  refine S.cal (k := 4) sc (fun vs H Q E h => by obtain ⟨_, _, _, _, _, _, _, _, _, _, rfl, _⟩ := h; rfl) (fun f cdv A outer s H vs Q E hr h => ⟨_, (pss_one (ps_ret (pe_and (pe_callB (k_isi (K := K) rfl) (by rfl) T.n_isinstance (by decide +kernel) (pa_cons (pv 0) (pa_cons (pe_bltn (v := .ty "tuple") (by rfl) T.n_tuple (by decide +kernel) rfl) pa_nil))) (pe_and (pe_cmpR op_eq (pe_callB (k_len_seq (K := K) rfl) (by rfl) T.n_len PySem.boot_len (pa_cons (pv 0) pa_nil)) pe_int (nomark _)) (pe_and (pe_cal C__law_same (hr.mono (by first | decide | omega)) rfl pass0 (pa_cons (pe_ix (k_ix_tup (K := K) rfl) (pv 0) pe_int (fun _ _ => rfl)) (pa_cons (pe_callTy (k_tuple_of (K := K) rfl) (by rfl) T.n_tuple (by decide +kernel) (pa_cons (pe_dget (hu_of hr) (pv 1) pe_str (fun _ _ => rfl)) pa_nil)) pa_nil))) (pe_one (pe_cal C__law_same (hr.mono (by first | decide | omega)) rfl pass0 (pa_cons (pe_ix (k_ix_tup (K := K) rfl) (pv 0) pe_int (fun _ _ => rfl)) (pa_cons (pe_dget (hu_of hr) (pv 1) pe_str (fun _ _ => rfl)) pa_nil))))))))), ?_⟩)
  obtain ⟨d, cl, fl, dl, al, s0, fs, wd, n, v, rfl, va, iv, hl, kk⟩ := h
  have same : ∀ {te ue : TE} {σ : L2.St} {H1 : Hp} {x : PyData}, OkS 3 x → EvD te σ H1 x → EvD ue σ H1 x → EvD (tCall (sp_same 3) [] E0 (tCons te (tCons ue tNil))) σ H1 (.bool true) := fun ok h1 h2 => ed_callQ (ea1 h1 (ea1 h2 ea0)) ⟨_, rfl, ok, rfl⟩
  have up : ∀ {m n : Nat} {x : PyData}, OkS m x → m ≤ n → OkS n x := by
    intro m n x h
    induction h generalizing n with
    | str m s hs => intro _; exact .str n s hs
    | int m i => intro _; exact .int n i
    | bool m i => intro _; exact .bool n i
    | non m => intro _; exact .non n
    | tup m ds hl hm ih =>
      intro hmn
      obtain ⟨n, rfl⟩ : ∃ n', n = n' + 1 := ⟨n - 1, by omega⟩
      exact .tup n ds hl fun x hx => ih x hx (by omega)
  refine s_retD (d := .bool true) (ed_and (a := true) (b := true) (ed_isi (ed_var rfl iv) kt_tuple_tuple) fun _ => ed_and (a := true) (b := true) (EvD.is (ed_eqI (ed_lenT (ds := [eI s0.cs, eLast s0.last, .tuple (s0.fs.map eFrm)]) (ed_var rfl iv)) (ed_i 3)) rfl) fun _ => ed_and (a := true) (b := true) (same (up (oks_ints hl) (by omega)) (ed_ixT (ds := [eI s0.cs, eLast s0.last, .tuple (s0.fs.map eFrm)]) (ed_var rfl iv) (ed_i 0) rfl) (ed_tupOf (va.d_counters rfl))) fun _ => same (up va.lg.oks (by omega)) (ed_ixT (ds := [eI s0.cs, eLast s0.last, .tuple (s0.fs.map eFrm)]) (ed_var rfl iv) (ed_i 1) rfl) (va.d_last rfl)) fun v1 H1 e1 iv1 => by
    cases iv1.b
    exact kk H1 e1
end
end K97
set_option Elab.async false
set_option linter.all false
set_option maxRecDepth 100000
set_option maxHeartbeats 4000000
namespace Pd
open PySem PyProof.Rows L2 Evl
section
variable {K : PySem.W.Frag} {σ : L2.St} {H H' : Hp} {ta tb : TE} {d : PyData} {ds es : List PyData} {x : V}
theorem en_rep1 {n : Nat} (ha : EvD ta σ H (.list [d])) (hb : EvD tb σ H (.int (n : Nat))) (hn : n ≤ 100000) : EvN (tOp rRep ta tb) σ H (List.replicate n d) :=
  en_op ha hb fun x y H1 e hx hy Q q => by
    obtain ⟨p, xs, rfl, h1, h2⟩ := hx.l
    cases hy.i
    obtain ⟨v, rfl, iv⟩ := h2.one
    refine ⟨p, (n : Nat), [v], rfl, rfl, h1, by omega, by omega, sz_of (by rw [Int.toNat_natCast]; show 1 * n ≤ _; omega), fun r hr => ?_⟩
    rw [Int.toNat_natCast]
    exact q r _ _ hr (Ex.new hr) upd_same (Ims.rep1 (iv.mono (Ex.new hr)) n)
theorem pairsC {v w : V} {r : List (TE × TE)} {Q : List (V × V) → Hp → Prop} (h : tPairs r σ H fun ps H3 => Q ((v, w) :: ps) H3) : tPairs ((tC v, tC w) :: r) σ H Q := h
theorem pairsN {v : V} {te : TE} {r : List (TE × TE)} {Q : List (V × V) → Hp → Prop} (h : te σ H fun y H2 => tPairs r σ H2 fun ps H3 => Q ((v, y) :: ps) H3) : tPairs ((tC v, te) :: r) σ H Q := h
theorem pairs0 {Q : List (V × V) → Hp → Prop} (h : Q [] H) : tPairs [] σ H Q := h
theorem Ims.snoc {e : PyData} : ∀ {ds : List PyData} {vs : List V}, Ims H vs (ds ++ [e]) → ∃ ws v, vs = ws ++ [v] ∧ Ims H ws ds ∧ Im H v e
  | [], _, h => by
    obtain ⟨v, rfl, iv⟩ := Ims.one h
    exact ⟨[], v, rfl, .nil, iv⟩
  | d :: ds, _, h => by
    cases h with
    | cons h1 h2 =>
      obtain ⟨ws, v, rfl, h3, h4⟩ := Ims.snoc h2
      exact ⟨_ :: ws, v, rfl, .cons h1 h3, h4⟩
theorem ExM.step {M M' : List Addr} {H1 H2 : Hp} (e1 : ExM M H H1) (e2 : ExM M' H1 H2) (h : ∀ a ∈ M', a ∈ M ∨ H a = none) : ExM M H H2 :=
  ⟨fun a o n ha => e2.1 a o (fun z => by rcases h a z with h | h; exact n h; rw [ha] at h; cases h) (e1.1 a o n ha), e1.2.trans e2.2⟩
end
end Pd
namespace K97
open PySem PySem.Spec PyProof.Rows L2 Evl Pd
def sp_linner : Sp := fun vs H Q _ => ∃ (d cl fl dl al : Addr) (cs : List Int) (la : Option Ans) (pre : List Frm) (b : List Stm) (i : Nat) (w : Str) (n : Nat), vs = [.ref d] ∧ VA d cl fl dl al cs la (pre ++ [(b, i)]) w n H ∧ pre.length ≤ 90000 ∧ BlkOk cs.length b ∧ i ≤ b.length ∧ (∀ o, b[i]? ≠ some (.do_ o)) ∧
  ∀ H' fl', (fl' = fl ∨ H fl' = none) → VA d cl fl' dl al (stepF cs la pre b i).cs (stepF cs la pre b i).last (stepF cs la pre b i).fs w n H' → ExM [d, cl, fl, dl, al] H H' → Q .non H'
section
variable {K : PySem.W.Frag} {σ : L2.St} {H : Hp} {tl : TE} {a : Option Ans}
def hasB : Option Ans → Bool
  | some (_, some (.int _)) => true
  | _ => false
theorem has_ev (h : LastG a) (hl : EvD tl σ H (eLast a)) : EvD (tAndV (tOp (fun x y H Q => y = .non ∧ Q (.bl (!decide (x = .non))) H) tl (tC .non)) (tAndV (tOp (rIn K false) (tOp (rIxT K) tl (tC (.int 0))) (tLst (tCons (tC (.str "value")) (tCons (tC (.str "size")) tNil)))) (tOp (fun x y H Q => y = .non ∧ Q (.bl (!decide (x = .non))) H) (tOp (rIxT K) tl (tC (.int 1))) (tC .non)))) σ H (.bool (hasB a)) ∧
    (hasB a = true → EvD (tOp (rIxT K) tl (tC (.int 1))) σ H (.int (keptW a))) ∧ (hasB a = false → keptW a = 0) := by
  revert hl
  refine h.cases (p := fun a => EvD tl σ H (eLast a) → EvD (tAndV (tOp (fun x y H Q => y = .non ∧ Q (.bl (!decide (x = .non))) H) tl (tC .non)) (tAndV (tOp (rIn K false) (tOp (rIxT K) tl (tC (.int 0))) (tLst (tCons (tC (.str "value")) (tCons (tC (.str "size")) tNil)))) (tOp (fun x y H Q => y = .non ∧ Q (.bl (!decide (x = .non))) H) (tOp (rIxT K) tl (tC (.int 1))) (tC .non)))) σ H (.bool (hasB a)) ∧
    (hasB a = true → EvD (tOp (rIxT K) tl (tC (.int 1))) σ H (.int (keptW a))) ∧ (hasB a = false → keptW a = 0)) ?_ ?_ ?_ ?_ ?_ ?_
  · intro hl
    exact ⟨ed_and (a := false) (b := false) (EvD.is (ed_notN hl) rfl) (fun z => by cases z), (fun z => by cases z), fun _ => rfl⟩
  · intro w hw hl
    have e0 : EvD (tOp (rIxT K) tl (tC (.int 0))) σ H (.str w) := ed_ixT (ds := [.str w]) hl (ed_i 0) rfl
    refine ⟨ed_and (a := true) (b := false) (EvD.is (ed_notN hl) rfl) (fun _ => ed_and (a := false) (b := false) (EvD.is (ed_inL (ss := ["value", "size"]) e0 ed_words2) ?_) (fun z => by cases z)), (fun z => by cases z), fun _ => rfl⟩
    simp only [List.mem_cons, List.not_mem_nil, or_false] at hw
    rcases hw with rfl | rfl | rfl | rfl <;> exact congrArg PyData.bool (by decide +kernel)
  · intro hl
    exact ⟨ed_and (a := true) (b := false) (EvD.is (ed_notN hl) rfl) (fun _ => ed_and (a := true) (b := false) (EvD.is (ed_inL (ss := ["value", "size"]) (ed_ixT (ds := [.str "value", .none]) hl (ed_i 0) rfl) ed_words2) (congrArg PyData.bool (by decide +kernel))) (fun _ => EvD.is (ed_notN (ed_ixT (ds := [.str "value", .none]) hl (ed_i 1) rfl)) rfl)), (fun z => by cases z), fun _ => rfl⟩
  · intro i hl
    exact ⟨ed_and (a := true) (b := true) (EvD.is (ed_notN hl) rfl) (fun _ => ed_and (a := true) (b := true) (EvD.is (ed_inL (ss := ["value", "size"]) (ed_ixT (ds := [.str "value", .int i]) hl (ed_i 0) rfl) ed_words2) (congrArg PyData.bool (by decide +kernel))) (fun _ => EvD.is (ed_notN (ed_ixT (ds := [.str "value", .int i]) hl (ed_i 1) rfl)) rfl)), fun _ => ed_ixT (ds := [.str "value", .int i]) hl (ed_i 1) rfl, fun z => by cases z⟩
  · intro i hl
    exact ⟨ed_and (a := true) (b := true) (EvD.is (ed_notN hl) rfl) (fun _ => ed_and (a := true) (b := true) (EvD.is (ed_inL (ss := ["value", "size"]) (ed_ixT (ds := [.str "size", .int i]) hl (ed_i 0) rfl) ed_words2) (congrArg PyData.bool (by decide +kernel))) (fun _ => EvD.is (ed_notN (ed_ixT (ds := [.str "size", .int i]) hl (ed_i 1) rfl)) rfl)), fun _ => ed_ixT (ds := [.str "size", .int i]) hl (ed_i 1) rfl, fun z => by cases z⟩
  · intro b hl
    exact ⟨ed_and (a := true) (b := false) (EvD.is (ed_notN hl) rfl) (fun _ => ed_and (a := false) (b := false) (EvD.is (ed_inL (ss := ["value", "size"]) (ed_ixT (ds := [.str "same", .bool b]) hl (ed_i 0) rfl) ed_words2) (congrArg PyData.bool (by decide +kernel))) (fun z => by cases z)), (fun z => by cases z), fun _ => rfl⟩
/-- last is not None and last[0] == "same" and last[1] -/
theorem true_ev (h : LastG a) (hl : EvD tl σ H (eLast a)) : EvD (tAndV (tOp (fun x y H Q => y = .non ∧ Q (.bl (!decide (x = .non))) H) tl (tC .non)) (tAndV (tOp rEq (tOp (rIxT K) tl (tC (.int 0))) (tC (.str "same"))) (tOp (rIxT K) tl (tC (.int 1))))) σ H (.bool (PyData.eqv (eLast a) sameT)) := by
  revert hl
  refine h.cases (p := fun a => EvD tl σ H (eLast a) → EvD (tAndV (tOp (fun x y H Q => y = .non ∧ Q (.bl (!decide (x = .non))) H) tl (tC .non)) (tAndV (tOp rEq (tOp (rIxT K) tl (tC (.int 0))) (tC (.str "same"))) (tOp (rIxT K) tl (tC (.int 1))))) σ H (.bool (PyData.eqv (eLast a) sameT))) ?_ ?_ ?_ ?_ ?_ ?_
  · intro hl
    exact EvD.is (ed_and (a := false) (b := false) (EvD.is (ed_notN hl) rfl) (fun z => by cases z)) (by rfl)
  · intro w hw hl
    have e0 : EvD (tOp (rIxT K) tl (tC (.int 0))) σ H (.str w) := ed_ixT (ds := [.str w]) hl (ed_i 0) rfl
    have hne : decide (w = "same") = false := by
      simp only [List.mem_cons, List.not_mem_nil, or_false] at hw
      rcases hw with rfl | rfl | rfl | rfl <;> decide +kernel
    refine EvD.is (ed_and (a := true) (b := false) (EvD.is (ed_notN hl) rfl) (fun _ => ed_and (a := false) (b := false) (EvD.is (ed_eqS e0 (ed_s _)) (congrArg PyData.bool hne)) (fun z => by cases z))) ?_
    simp [eLast, eAns, sameT, PyData.eqv, PyData.eqvAll]
  · intro hl
    refine EvD.is (ed_and (a := true) (b := false) (EvD.is (ed_notN hl) rfl) (fun _ => ed_and (a := false) (b := false) (EvD.is (ed_eqS (ed_ixT (ds := [.str "value", .none]) hl (ed_i 0) rfl) (ed_s _)) (congrArg PyData.bool (by decide +kernel))) (fun z => by cases z))) ?_
    simp [eLast, eAns, sameT, PyData.eqv, PyData.eqvAll]
  · intro i hl
    refine EvD.is (ed_and (a := true) (b := false) (EvD.is (ed_notN hl) rfl) (fun _ => ed_and (a := false) (b := false) (EvD.is (ed_eqS (ed_ixT (ds := [.str "value", .int i]) hl (ed_i 0) rfl) (ed_s _)) (congrArg PyData.bool (by decide +kernel))) (fun z => by cases z))) ?_
    have : ("value" : Str) ≠ "same" := by decide +kernel
    simp [eLast, eAns, sameT, PyData.eqv, PyData.eqvAll, this]
  · intro i hl
    refine EvD.is (ed_and (a := true) (b := false) (EvD.is (ed_notN hl) rfl) (fun _ => ed_and (a := false) (b := false) (EvD.is (ed_eqS (ed_ixT (ds := [.str "size", .int i]) hl (ed_i 0) rfl) (ed_s _)) (congrArg PyData.bool (by decide +kernel))) (fun z => by cases z))) ?_
    have : ("size" : Str) ≠ "same" := by decide +kernel
    simp [eLast, eAns, sameT, PyData.eqv, PyData.eqvAll, this]
  · intro b hl
    refine EvD.is (ed_and (a := true) (b := b) (EvD.is (ed_notN hl) rfl) (fun _ => ed_and (a := true) (b := b) (EvD.is (ed_eqS (ed_ixT (ds := [.str "same", .bool b]) hl (ed_i 0) rfl) (ed_s _)) (congrArg PyData.bool (by decide +kernel))) (fun _ => ed_ixT (ds := [.str "same", .bool b]) hl (ed_i 1) rfl))) ?_
    cases b <;> simp [eLast, eAns, sameT, PyData.eqv, PyData.eqvAll]
theorem ans_ev {w : Str} {te : TE} (h : LastG a) (hl : EvD tl σ H (eLast a)) (hw : EvD te σ H (.str w)) : EvD (tAndV (tOp (fun x y H Q => y = .non ∧ Q (.bl (!decide (x = .non))) H) tl (tC .non)) (tOp rEq (tOp (rIxT K) tl (tC (.int 0))) te)) σ H (.bool (hold cs a (.ans w))) := by
  rcases a with _ | ⟨x, _ | y⟩
  · exact ed_and (b := false) (EvD.is (ed_notN hl) rfl) (fun z => by cases z)
  · exact ed_and (a := true) (EvD.is (ed_notN hl) rfl) (fun _ => ed_eqS (ed_ixT (ds := [.str x]) hl (ed_i 0) rfl) hw)
  · exact ed_and (a := true) (EvD.is (ed_notN hl) rfl) (fun _ => ed_eqS (ed_ixT (ds := [.str x, y]) hl (ed_i 0) rfl) hw)
end
section
variable {P : Program} {w : World} {K : PySem.W.Frag} {mg : Str → Option Value} {base : Heap}
theorem cal__law_voice (S : Src K mg "_law_voice" st__law_voice ["teller"]) (T : Txt K mg) : Cal P w K mg base CX0 1 "_law_voice" ["teller"] sp_voice := by
  have sc := sc__law_voice
  refine S.cal (k := 0) sc (fun vs H Q E h => by obtain ⟨_, _, _, rfl, _⟩ := h; rfl) (fun f cdv A outer s H vs Q E hr h => ⟨_, (pss_one (ps_ret (pe_disp (pps_cons pe_str (pe_op op_rep (pe_lst (pa_cons pe_int pa_nil)) (pe_ix (k_ix_tup (K := K) rfl) (pv 0) pe_int (fun _ _ => rfl))) (pps_cons pe_str pe_non (pps_cons pe_str (pe_lst (pa_cons (pe_tup (pa_cons (pe_ix (k_ix_tup (K := K) rfl) (pv 0) pe_int (fun _ _ => rfl)) (pa_cons pe_int pa_nil))) pa_nil)) (pps_cons pe_str pe_str (pps_cons pe_str (pe_lst pa_nil) (pps_cons pe_str (pe_lst pa_nil) pps_nil)))))) rfl rfl (by intro h; cases h) (by decide)))), ?_⟩)
  obtain ⟨v, cnt, b, rfl, iv, hc, kk⟩ := h
  intro p hp
  have e0 : Ex H (upd H p (.dK [])) := Ex.new hp
  have vt : ∀ {H1}, Ex H H1 → EvD (tVar 0) [some v] H1 (eTel cnt b) := fun e => ed_var rfl (iv.mono e)
  refine pairsN (en_rep1 (d := .int 0) (n := cnt) (en_lst (ea1 (ed_i 0) ea0) (by show 1 ≤ 100000; omega)).toD (ed_ixT (vt e0) (ed_i 0) rfl) (by omega) _ (Ex.refl _) _ fun cl x1 H1 n1 e1 a1 b1 => pairsC (pairsN ?_))
  refine en_lst (ds := [eFrm (b, 0)]) (ea1 (ed_tup (ea1 (ed_ixT (vt (e0.trans e1)) (ed_i 1) rfl) (ea1 (ed_i 0) ea0)) (by show 2 ≤ 100000; omega)) ea0) (by show 1 ≤ 100000; omega) _ (Ex.refl _) _ fun fl x2 H2 n2 e2 a2 b2 => pairsC (pairsN ?_)
  refine en_lst (ds := []) ea0 (by show 0 ≤ 100000; omega) _ (Ex.refl _) _ fun dl x3 H3 n3 e3 a3 b3 => pairsN ?_
  refine en_lst (ds := []) ea0 (by show 0 ≤ 100000; omega) _ (Ex.refl _) _ fun al x4 H4 n4 e4 a4 b4 => pairs0 ?_
  have hp4 : H4 p = some (.dK []) := e4 _ _ (e3 _ _ (e2 _ _ (e1 _ _ upd_same)))
  refine ⟨hp4, vk cl .non fl "open" dl al, rfl, by show 6 ≤ 15; omega, ?_⟩
  rw [vk_merge]
  have e04 : Ex H H4 := (((e0.trans e1).trans e2).trans e3).trans e4
  have c1 : H4 cl = some (.lst x1) := e4 _ _ (e3 _ _ (e2 _ _ a1))
  have c2 : H4 fl = some (.lst x2) := e4 _ _ (e3 _ _ a2)
  have c3 : H4 dl = some (.lst x3) := e4 _ _ a3
  have f12 : cl ≠ fl := fun z => by rw [← z, a1] at n2; cases n2
  have f13 : cl ≠ dl := fun z => by rw [← z, e2 _ _ a1] at n3; cases n3
  have f14 : cl ≠ al := fun z => by rw [← z, e3 _ _ (e2 _ _ a1)] at n4; cases n4
  have f23 : fl ≠ dl := fun z => by rw [← z, a2] at n3; cases n3
  have f24 : fl ≠ al := fun z => by rw [← z, e3 _ _ a2] at n4; cases n4
  have f34 : dl ≠ al := fun z => by rw [← z, a3] at n4; cases n4
  rw [show List.replicate cnt (PyData.int 0) = (List.replicate cnt (0 : Int)).map PyData.int by rw [List.map_replicate]] at b1
  have ex1 := b1.ints
  subst ex1
  cases b3
  cases b4
  have va : VA p cl fl dl al (List.replicate cnt 0) none [(b, 0)] "open" 0 (upd H4 p (.dK (vk cl .non fl "open" dl al))) := by
    have tx := tx_dk (o := .dK (vk cl .non fl "open" dl al)) hp4
    refine ⟨⟨.non, upd_same, .non⟩, by rw [upd_ne (ne_lst_dk c1 hp4)]; exact c1, ⟨x2, by rw [upd_ne (ne_lst_dk c2 hp4)]; exact c2, ((b2.mono e3).mono e4).tx tx (still_frms [(b, 0)])⟩, ⟨[], by rw [upd_ne (ne_lst_dk c3 hp4)]; exact c3, Nat.le_refl _⟩, ⟨[], by rw [upd_ne (ne_lst_dk a4 hp4)]; exact a4, Nat.le_refl _⟩, ⟨f12, f13, f14, f23, f24, f34⟩, trivial⟩
  refine kk p cl fl dl al _ va (fun a ha => ?_) (fun a o ha => by rw [upd_ne (fun z => by rw [z, hp] at ha; cases ha)]; exact e04 a o ha)
  simp only [List.mem_cons, List.not_mem_nil, or_false] at ha
  rcases ha with rfl | rfl | rfl | rfl | rfl
  · exact hp
  · exact fresh_back e0 n1
  · exact fresh_back (e0.trans e1) n2
  · exact fresh_back ((e0.trans e1).trans e2) n3
  · exact fresh_back (((e0.trans e1).trans e2).trans e3) n4
theorem cal__law_holds (S : Src K mg "_law_holds" st__law_holds ["test", "counters", "last"]) (T : Txt K mg) : Cal P w K mg base CX0 1 "_law_holds" ["test", "counters", "last"] sp_hold2 := by
  have sc := sc__law_holds
  refine S.cal (k := 0) sc (SpQ.len fun ds d h => by obtain ⟨_, _, _, rfl, _⟩ := h; rfl) (fun f cdv A outer s H vs Q E hr h => ⟨_, (pss_cons (ps_set (i := 3) sc.nd rfl (by first | exact Or.inl rfl | exact Or.inr rfl) pe_bl)
  (pss_cons (ps_for PassesOwn.never rfl (pi_range1 (by rfl) T.n_range (pa_cons pe_int pa_nil)) (pg_name (i := 4) sc.nd rfl (by first | exact Or.inl rfl | exact Or.inr rfl)) (pss_one (ps_if (pt_cmpR op_eq (pe_ix (k_ix_tup (K := K) rfl) (pv 0) pe_int (fun _ _ => rfl)) pe_str (nomark _)) (pss_one (ps_par (i := 0) (j := 3) rfl sc.nd rfl rfl (by decide) rfl rfl (pa_cons (pe_ix (k_ix_tup (K := K) rfl) (pv 0) pe_int (fun _ _ => rfl)) (pa_cons (pe_not (pv 3)) pa_nil)) (by rfl))) pss_nil)))
  (pss_cons (ps_if (pt_cmpR op_eq (pe_ix (k_ix_tup (K := K) rfl) (pv 0) pe_int (fun _ _ => rfl)) pe_str (nomark _)) (pss_one (ps_set (i := 5) sc.nd rfl (by first | exact Or.inl rfl | exact Or.inr rfl) (pe_and (pe_cmpR op_notN (pv 2) pe_non (nomark _)) (pe_one (pe_cmpR op_eq (pe_ix (k_ix_tup (K := K) rfl) (pv 2) pe_int (fun _ _ => rfl)) (pe_ix (k_ix_tup (K := K) rfl) (pv 0) pe_int (fun _ _ => rfl)) (nomark _)))))) (pss_one (ps_if (pt_cmpR op_eq (pe_ix (k_ix_tup (K := K) rfl) (pv 0) pe_int (fun _ _ => rfl)) pe_str (nomark _)) (pss_one (ps_set (i := 5) sc.nd rfl (by first | exact Or.inl rfl | exact Or.inr rfl) (pe_and (pe_cmpR op_notN (pv 2) pe_non (nomark _)) (pe_and (pe_cmpR op_eq (pe_ix (k_ix_tup (K := K) rfl) (pv 2) pe_int (fun _ _ => rfl)) pe_str (nomark _)) (pe_one (pe_ix (k_ix_tup (K := K) rfl) (pv 2) pe_int (fun _ _ => rfl))))))) (pss_one (ps_if (pt_cmpR op_eq (pe_ix (k_ix_tup (K := K) rfl) (pv 0) pe_int (fun _ _ => rfl)) pe_str (nomark _)) (pss_one (ps_set (i := 5) sc.nd rfl (by first | exact Or.inl rfl | exact Or.inr rfl) (pe_cmpR op_lt (pe_ix (k_ix_list (K := K) rfl) (pv 1) (pe_ix (k_ix_tup (K := K) rfl) (pv 0) pe_int (fun _ _ => rfl)) (fun _ _ => rfl)) (pe_ix (k_ix_tup (K := K) rfl) (pv 0) pe_int (fun _ _ => rfl)) (nomark _)))) (pss_one (ps_set (i := 5) sc.nd rfl (by first | exact Or.inl rfl | exact Or.inr rfl) (pe_cmpR op_eq (pe_ix (k_ix_list (K := K) rfl) (pv 1) (pe_ix (k_ix_tup (K := K) rfl) (pv 0) pe_int (fun _ _ => rfl)) (fun _ _ => rfl)) (pe_ix (k_ix_tup (K := K) rfl) (pv 0) pe_int (fun _ _ => rfl)) (nomark _)))))))))
  (pss_one (ps_ret (pe_cmpR op_ne (pv 5) (pv 3) (nomark _))))))), ?_⟩)
  obtain ⟨ds, d, ims, ⟨t, cs, a, rfl, hd, ok, lg, rfl⟩, kk⟩ := h
  obtain ⟨v1, v2, v3, rfl, i1, i2, i3⟩ := ims.three
  show tSeq (tAsg _ _) _ _ [some v1, some v2, some v3, none, none, none] H
  refine q_asgD (ed_b false) ?_
  intro v H1 e1 iv
  cases iv.b
  have e30 : EvDs (tCons (tC (V.int 30)) tNil) [some v1, some v2, some v3, some (.bl false), none, none] H1 [.int ((30 : Nat) : Int)] := ea1 (ed_i 30) ea0
  refine q_forM [] (wm_range e30 (by omega)) (fun i σ' H' => ∃ (t' : Tst) (x : V) (tn : Bool) (s4 s5 : Option V), σ' = [some x, some v2, some v3, some (.bl tn), s4, s5] ∧ Ex H H' ∧ Im H' x (eTst t') ∧ t'.deep ≤ 2 - i ∧ TstOk cs.length t' ∧ hold cs a t = (hold cs a t' != tn)) ?_ ?_ ?_ ?_
  · intro H2 e2
    exact ⟨t, v1, false, _, _, rfl, e1.trans e2, i1.mono (e1.trans e2), by omega, ok, by simp⟩
  · rintro i σ' H2 H3 ⟨t', x, tn, s4, s5, rfl, p1, p2, p3⟩ e
    exact ⟨t', x, tn, s4, s5, rfl, p1.trans e, p2.mono e, p3⟩
  · rintro i d0 x0 σ' H3 H4 hk e34 ix0 ⟨t', x, tn, s4, s5, rfl, p1, p2, p3, p4, p5⟩
    show tIfS _ _ _ _ [some x, some v2, some v3, some (.bl tn), some x0, s5] H4
    have vx : ∀ {H5 : Hp}, Ex H4 H5 → EvD (tVar 0) [some x, some v2, some v3, some (.bl tn), some x0, s5] H5 (eTst t') := fun e => ed_var rfl (p2.mono e)
    have other : ∀ {u : Str} {l : List PyData}, eTst t' = .tuple (.str u :: l) → decide (u = "not") = false → 2 - (i + 1) ≥ t'.deep → tIfS (tTest (tOp rEq (tOp (rIxT K) (tVar 0) (tC (.int 0))) (tC (.str "not")))) (tPar 0 3 (tCons (tOp (rIxT K) (tVar 0) (tC (.int 1))) (tCons (tNotV (tVar 3)) tNil))) tNext { ({ nx := fun x H' => Q V.non H', rt := Q } : Ends) with nx := fun σ3 H6 => (∃ (t' : Tst) (x : V) (tn : Bool) (s4 s5 : Option V), σ3 = [some x, some v2, some v3, some (.bl tn), s4, s5] ∧ Ex H H6 ∧ Im H6 x (eTst t') ∧ t'.deep ≤ 2 - (i + 1) ∧ TstOk cs.length t' ∧ hold cs a t = (hold cs a t' != tn)) ∧ ExM [] H3 H6, ct := fun _ _ => True, bk := fun _ _ => True } [some x, some v2, some v3, some (.bl tn), some x0, s5] H4 := by
      intro u l e hu hdp
      have vx' := e ▸ vx (Ex.refl H4)
      refine s_when (et_is (et_D (ed_eqS (ed_ixT vx' (ed_i 0) (atI_nat (j := 0) rfl)) (ed_s "not"))) hu) (fun z => by cases z) ?_
      intro _ H5 e5
      exact ⟨⟨t', x, tn, _, _, rfl, p1.trans e5, p2.mono e5, hdp, p4, p5⟩, ExM.of (e34.trans e5)⟩
    cases t' with
    | ans u => exact other (u := "answer") rfl (by decide +kernel) (Nat.zero_le _)
    | tru => exact other (u := "true") rfl (by decide +kernel) (Nat.zero_le _)
    | less j q => exact other (u := "less") rfl (by decide +kernel) (Nat.zero_le _)
    | is j q => exact other (u := "is") rfl (by decide +kernel) (Nat.zero_le _)
    | nt t' =>
      have vx' : ∀ {H5 : Hp}, Ex H4 H5 → EvD (tVar 0) [some x, some v2, some v3, some (.bl tn), some x0, s5] H5 (.tuple [.str "not", eTst t']) := fun e => vx e
      refine s_when (b := true) (et_is (et_D (ed_eqS (ed_ixT (vx' (Ex.refl H4)) (ed_i 0) rfl) (ed_s "not"))) (by decide +kernel)) ?_ (fun z => by cases z)
      intro _ H5 e5
      refine (ea1 (ed_ixT (vx' e5) (ed_i 1) rfl) (ea1 (ed_not (ed_var rfl (.bl tn))) ea0)) H5 (Ex.refl H5) _ fun vs H6 e6 ivs => ?_
      obtain ⟨y1, y2, rfl, j1, j2⟩ := ivs.two
      cases j2.b
      have p3' : t'.deep + 1 ≤ 2 - i := p3
      exact ⟨y1, _, rfl, ⟨t', y1, !tn, _, _, rfl, (p1.trans e5).trans e6, j1, by omega, p4, by rw [p5, hold]; cases hold cs a t' <;> cases tn <;> rfl⟩, ExM.of ((e34.trans e5).trans e6)⟩
  · rintro σ' H' ⟨t', x, tn, s4, s5, rfl, p1, p2, p3, p4, p5⟩
    rw [List.length_map, List.length_range] at p3
    have i2' := i2.mono p1
    have i3' := i3.mono p1
    have vx : ∀ {s5 : Option V} {H5 : Hp}, Ex H' H5 → EvD (tVar 0) [some x, some v2, some v3, some (.bl tn), s4, s5] H5 (eTst t') := fun e => ed_var rfl (p2.mono e)
    have vc : ∀ {s5 : Option V} {H5 : Hp}, Ex H' H5 → EvD (tVar 1) [some x, some v2, some v3, some (.bl tn), s4, s5] H5 (.list (cs.map .int)) := fun e => ed_var rfl (i2'.mono e)
    have vl : ∀ {s5 : Option V} {H5 : Hp}, Ex H' H5 → EvD (tVar 2) [some x, some v2, some v3, some (.bl tn), s4, s5] H5 (eLast a) := fun e => ed_var rfl (i3'.mono e)
    have fin : ∀ {v : V} {H5 : Hp}, Ex H' H5 → Im H5 v (.bool (hold cs a t')) → tRet (tOp rNe (tVar 5) (tVar 3)) { nx := fun x H' => Q V.non H', rt := Q } [some x, some v2, some v3, some (.bl tn), s4, some v] H5 := fun e iv => s_retD (EvD.is (ed_neB (ed_var rfl iv) (ed_var rfl (.bl tn))) (by rw [p5]; cases hold cs a t' <;> cases tn <;> rfl)) fun y H6 e6 iy => kk y H6 ((p1.trans e).trans e6) iy
    show tSeq (tIfS _ _ _) _ _ [some x, some v2, some v3, some (.bl tn), s4, s5] H'
    have is0 : ∀ {u : Str} {l : List PyData} (z : Str) {H5 : Hp}, eTst t' = .tuple (.str u :: l) → Ex H' H5 → EvT (tTest (tOp rEq (tOp (rIxT K) (tVar 0) (tC (.int 0))) (tC (.str z)))) [some x, some v2, some v3, some (.bl tn), s4, s5] H5 (decide (u = z)) := fun {_ _} z {_} e ex => et_D (ed_eqS (ed_ixT (e ▸ vx ex) (ed_i 0) (atI_nat (j := 0) rfl)) (ed_s z))
    cases t' with
    | ans u =>
      refine q_if (b := true) (et_is (is0 "answer" rfl (Ex.refl H')) (by decide +kernel)) ?_ (fun z => by cases z)
      intro _ H5 e5
      refine s_asgD (ans_ev (cs := cs) (w := u) lg (vl e5) (ed_ixT (vx e5) (ed_i 1) rfl)) fun v H6 e6 iv => ?_
      exact fin (e5.trans e6) iv
    | tru =>
      refine q_if (b := false) (et_is (is0 "answer" rfl (Ex.refl H')) (by decide +kernel)) (fun z => by cases z) ?_
      intro _ H5 e5
      refine s_if (b := true) (et_is (is0 "true" rfl e5) (by decide +kernel)) ?_ (fun z => by cases z)
      intro _ H6 e6
      have e56 := e5.trans e6
      refine s_asgD (true_ev lg (vl e56)) fun v H7 e7 iv => ?_
      exact fin (e56.trans e7) iv
    | less j q =>
      refine q_if (b := false) (et_is (is0 "answer" rfl (Ex.refl H')) (by decide +kernel)) (fun z => by cases z) ?_
      intro _ H5 e5
      refine s_if (b := false) (et_is (is0 "true" rfl e5) (by decide +kernel)) (fun z => by cases z) ?_
      intro _ H6 e6
      have e56 := e5.trans e6
      refine s_if (b := true) (et_is (is0 "less" rfl e56) (by decide +kernel)) ?_ (fun z => by cases z)
      intro _ H7 e7
      have e57 := e56.trans e7
      refine s_asgD (ed_B0 (g := fun i j => decide (i < j)) (ed_ixL (vc e57) (ed_ixT (vx e57) (ed_i 1) rfl) (atI_nat (at_c p4))) (ed_ixT (vx e57) (ed_i 2) rfl)) fun v H8 e8 iv => ?_
      exact fin (e57.trans e8) iv
    | is j q =>
      refine q_if (b := false) (et_is (is0 "answer" rfl (Ex.refl H')) (by decide +kernel)) (fun z => by cases z) ?_
      intro _ H5 e5
      refine s_if (b := false) (et_is (is0 "true" rfl e5) (by decide +kernel)) (fun z => by cases z) ?_
      intro _ H6 e6
      have e56 := e5.trans e6
      refine s_if (b := false) (et_is (is0 "less" rfl e56) (by decide +kernel)) (fun z => by cases z) ?_
      intro _ H7 e7
      have e57 := e56.trans e7
      refine s_asgD (ed_eqI (ed_ixL (vc e57) (ed_ixT (vx e57) (ed_i 1) rfl) (atI_nat (at_c p4))) (ed_ixT (vx e57) (ed_i 2) rfl)) fun v H8 e8 iv => ?_
      exact fin (e57.trans e8) iv
    | nt t' => exact absurd p3 (by show ¬ t'.deep + 1 ≤ 2 - 30; omega)
end
end K97
set_option Elab.async false
set_option linter.all false
set_option maxRecDepth 100000
set_option maxHeartbeats 4000000
namespace K97
open PySem PySem.Spec PyProof.Rows L2 Evl Pd
section
variable {P : Program} {w : World} {K : PySem.W.Frag} {mg : Str → Option Value} {base : Heap}
theorem cal__law_inner (S : Src K mg "_law_inner" st__law_inner ["voice"]) (T : Txt K mg) (C__law_holds : Cal P w K mg base CX0 1 "_law_holds" ["test", "counters", "last"] sp_hold2) (C__law_counted : Cal P w K mg base CX0 1 "_law_counted" ["voice", "index", "number"] sp_counted) : Cal P w K mg base CX0 2 "_law_inner" ["voice"] sp_linner := by
  have sc := sc__law_inner
  refine S.cal (k := 1) sc (fun vs H Q E h => by obtain ⟨_, _, _, _, _, _, _, _, _, _, _, _, rfl, _⟩ := h; rfl) (fun f cdv A outer s H vs Q E hr h => ⟨_, (pss_cons (ps_par (i := 1) (j := 2) rfl sc.nd rfl rfl (by decide) rfl rfl (pa_cons (pe_dget (hu_of hr) (pv 0) pe_str (fun _ _ => rfl)) (pa_cons (pe_dget (hu_of hr) (pv 0) pe_str (fun _ _ => rfl)) pa_nil)) (by rfl))
  (pss_cons (ps_asg (pe_ix (k_ix_list (K := K) rfl) (pv 1) (pe_un un_neg pe_int) (fun _ _ => rfl)) (k_pg_tup (K := K) (n := 2) rfl rfl (pgs_cons (pg_name (i := 3) sc.nd rfl (by first | exact Or.inl rfl | exact Or.inr rfl)) (pgs_cons (pg_name (i := 4) sc.nd rfl (by first | exact Or.inl rfl | exact Or.inr rfl)) pgs_nil))))
  (pss_cons (ps_if (pt_cmpR op_eq (pv 4) (pe_callB (k_len_seq (K := K) rfl) (by rfl) T.n_len PySem.boot_len (pa_cons (pv 3) pa_nil)) (nomark _)) (pss_cons (ps_expr (k_pop0 (K := K) rfl (pv 1)))
  (pss_one (ps_retN))) pss_nil)
  (pss_cons (ps_set (i := 5) sc.nd rfl (by first | exact Or.inl rfl | exact Or.inr rfl) (pe_ix (k_ix_tup (K := K) rfl) (pv 3) (pv 4) (fun _ _ => rfl)))
  (pss_cons (ps_if (PW.pt (pw_and (pt_cmpR op_eq (pe_ix (k_ix_tup (K := K) rfl) (pv 5) pe_int (fun _ _ => rfl)) pe_str (nomark _)) (pw_and1 (pt_val (pe_cal C__law_holds (hr.mono (by first | decide | omega)) rfl pass0 (pa_cons (pe_ix (k_ix_tup (K := K) rfl) (pv 5) pe_int (fun _ _ => rfl)) (pa_cons (pe_dget (hu_of hr) (pv 0) pe_str (fun _ _ => rfl)) (pa_cons (pv 2) pa_nil)))))))) (pss_cons (ps_expr (k_append (K := K) rfl (pv 1) (pa_cons (pe_tup (pa_cons (pe_ix (k_ix_tup (K := K) rfl) (pv 5) pe_int (fun _ _ => rfl)) (pa_cons pe_int pa_nil))) pa_nil)))
  (pss_one (ps_retN))) pss_nil)
  (pss_cons (ps_asg (pe_tup (pa_cons (pv 3) (pa_cons (pe_op op_add (pv 4) pe_int) pa_nil))) (pg_sub (pv 1) (pe_un un_neg pe_int) set_list))
  (pss_one (ps_if (pt_cmpR op_eq (pe_ix (k_ix_tup (K := K) rfl) (pv 5) pe_int (fun _ _ => rfl)) pe_str (nomark _)) (pss_one (ps_expr (pe_cal C__law_counted (hr.mono (by first | decide | omega)) rfl pass0 (pa_cons (pv 0) (pa_cons (pe_ix (k_ix_tup (K := K) rfl) (pv 5) pe_int (fun _ _ => rfl)) (pa_cons (pe_op op_add (pe_ix (k_ix_list (K := K) rfl) (pe_dget (hu_of hr) (pv 0) pe_str (fun _ _ => rfl)) (pe_ix (k_ix_tup (K := K) rfl) (pv 5) pe_int (fun _ _ => rfl)) (fun _ _ => rfl)) (pe_ix (k_ix_tup (K := K) rfl) (pv 5) pe_int (fun _ _ => rfl))) pa_nil)))))) (pss_one (ps_if (pt_cmpR op_eq (pe_ix (k_ix_tup (K := K) rfl) (pv 5) pe_int (fun _ _ => rfl)) pe_str (nomark _)) (pss_cons (ps_set (i := 6) sc.nd rfl (by first | exact Or.inl rfl | exact Or.inr rfl) (pe_and (pe_cmpR op_notN (pv 2) pe_non (nomark _)) (pe_and (pe_cmpR (k_in_seq (K := K) rfl) (pe_ix (k_ix_tup (K := K) rfl) (pv 2) pe_int (fun _ _ => rfl)) (pe_lst (pa_cons pe_str (pa_cons pe_str pa_nil))) (by rfl)) (pe_one (pe_cmpR op_notN (pe_ix (k_ix_tup (K := K) rfl) (pv 2) pe_int (fun _ _ => rfl)) pe_non (nomark _))))))
  (pss_one (ps_expr (pe_cal C__law_counted (hr.mono (by first | decide | omega)) rfl pass0 (pa_cons (pv 0) (pa_cons (pe_ix (k_ix_tup (K := K) rfl) (pv 5) pe_int (fun _ _ => rfl)) (pa_cons (pe_ifExp (pt_val (pv 6)) (pe_ix (k_ix_tup (K := K) rfl) (pv 2) pe_int (fun _ _ => rfl)) pe_int) pa_nil))))))) (pss_one (ps_if (pt_cmpR op_eq (pe_ix (k_ix_tup (K := K) rfl) (pv 5) pe_int (fun _ _ => rfl)) pe_str (nomark _)) (pss_one (ps_expr (k_append (K := K) rfl (pv 1) (pa_cons (pe_tup (pa_cons (pe_ifExp (pt_val (pe_cal C__law_holds (hr.mono (by first | decide | omega)) rfl pass0 (pa_cons (pe_ix (k_ix_tup (K := K) rfl) (pv 5) pe_int (fun _ _ => rfl)) (pa_cons (pe_dget (hu_of hr) (pv 0) pe_str (fun _ _ => rfl)) (pa_cons (pv 2) pa_nil))))) (pe_ix (k_ix_tup (K := K) rfl) (pv 5) pe_int (fun _ _ => rfl)) (pe_ix (k_ix_tup (K := K) rfl) (pv 5) pe_int (fun _ _ => rfl))) (pa_cons pe_int pa_nil))) pa_nil)))) (pss_one (ps_if (pt_cmpR op_eq (pe_ix (k_ix_tup (K := K) rfl) (pv 5) pe_int (fun _ _ => rfl)) pe_str (nomark _)) (pss_one (ps_dput (hu_of hr) (pv 0) pe_str (pe_lst pa_nil) rfl)) pss_nil)))))))))))))), ?_⟩)
  obtain ⟨d, cl, fl, dl, al, cs, la, pre, b, i, wd, n, rfl, va, hp, ok, hi, nodo, kk⟩ := h
  have lg := va.lg
  refine q_par2 (consA ((va.e_frames rfl) H (Ex.refl H) _ fun H1 e1 => consA (((va.ex e1).d_last rfl) H1 (Ex.refl _) _ fun v2 H2 e2 iv2 => nilA ⟨_, _, rfl, ?_⟩)))
  have e02 := e1.trans e2
  have va2 := va.ex e02
  obtain ⟨frs, hf1, hf2⟩ := va2.hf
  have hfs : (pre ++ [(b, i)]).map eFrm = pre.map eFrm ++ [eFrm (b, i)] := by rw [List.map_append]; rfl
  rw [hfs] at hf2
  obtain ⟨frs, xf, rfl, hf3, hf4⟩ := hf2.snoc
  show tSeq (tAsg _ _) _ _ [some (.ref d), some (.ref fl), some v2, none, none, none, none] H2
  refine q_un2 (ed_ixL (ed_var rfl (.lst hf1 hf2)) ed_m1 (atI_last _ _)) fun v3 v4 H3 e3 i3 i4 => ?_
  cases i4.i
  show tSeq (tIfS _ _ _) _ _ [some (.ref d), some (.ref fl), some v2, some v3, some (.int (i : Nat)), none, none] H3
  have wl : ∀ {n5 n6 : Option V} {H5}, Ex H3 H5 → EvD (tVar 2) [some (.ref d), some (.ref fl), some v2, some v3, some (.int (i : Nat)), n5, n6] H5 (eLast la) := fun e => ed_var rfl (iv2.mono (e3.trans e))
  have wb : ∀ {n5 n6 : Option V} {H5}, Ex H3 H5 → EvD (tVar 3) [some (.ref d), some (.ref fl), some v2, some v3, some (.int (i : Nat)), n5, n6] H5 (eBlk b) := fun e => ed_var rfl (i3.mono e)
  have wi : ∀ {n5 n6 : Option V} {H5}, EvD (tVar 4) [some (.ref d), some (.ref fl), some v2, some v3, some (.int (i : Nat)), n5, n6] H5 (.int (i : Nat)) := ed_var rfl (.int (i : Nat))
  have e03 := e02.trans e3
  have cut : ∀ {H5 : Hp}, Ex H3 H5 → H5 fl = some (.lst (frs ++ [xf])) := fun e => e _ _ (e3 _ _ hf1)
  have frsI : ∀ {H5 : Hp}, Ex H3 H5 → Ims H5 frs (pre.map eFrm) := fun e => hf3.mono (e3.trans e)
  refine q_when (b := decide (i = b.length)) (et_is (et_D (ed_eqI wi (ed_lenT (wb (Ex.refl H3))))) (by rw [List.length_map]; exact decide_eq_decide.mpr (by omega))) ?_ ?_
  · intro hb H4 e4
    have hib := of_decide_eq_true hb
    refine q_popA (cut e4) (ev_var rfl) fun H5 e5 => ?_
    have va5 := va2.ex ((e3.trans e4).trans e5)
    have st : stepF cs la pre b i = ⟨cs, la, pre⟩ := by unfold stepF; rw [if_pos hib]
    refine kk _ fl (.inl rfl) ?_ ?_
    · rw [st]
      exact va5.set_f (frsI (e4.trans e5))
    · exact (ExM.of (e03.trans (e4.trans e5))).trans (ExM.upd (cut (e4.trans e5)) (by simp))
  intro hb H4 e4
  have hib : i ≠ b.length := of_decide_eq_false hb
  have hlt : i < b.length := by omega
  obtain ⟨st, hst⟩ : ∃ st, b[i]? = some st := ⟨_, List.getElem?_eq_getElem hlt⟩
  have sok : StmOk cs.length st := ok.at hst
  refine q_asgD (d := eStm st) (ed_ixT (wb e4) wi (atI_nat (by rw [List.getElem?_map, hst]; rfl))) fun v5 H5 e5 i5 => ?_
  have e35 := e4.trans e5
  show tSeq (tIfS _ _ _) _ _ [some (.ref d), some (.ref fl), some v2, some v3, some (.int (i : Nat)), some v5, none] H5
  have ws : ∀ {n6 : Option V} {H6}, Ex H5 H6 → EvD (tVar 5) [some (.ref d), some (.ref fl), some v2, some v3, some (.int (i : Nat)), some v5, n6] H6 (eStm st) := fun e => ed_var rfl (i5.mono e)
  have va5 := va2.ex (e3.trans e35)
  have em05 : ExM [d, cl, fl, dl, al] H H5 := ExM.of (e03.trans e35)
  -- the word of the statement
  have isw : ∀ (z : Str) {n6 : Option V} {H6}, Im H6 v5 (eStm st) → EvT (tTest (tOp rEq (tOp (rIxT K) (tVar 5) (tC (.int 0))) (tC (.str z)))) [some (.ref d), some (.ref fl), some v2, some v3, some (.int (i : Nat)), some v5, n6] H6 (decide (stWord st = z)) := fun z {_ _} im => by
    obtain ⟨l, hl⟩ := eStm_word st
    rw [hl] at im
    exact et_D (ed_eqS (ed_ixT (ed_var rfl im) (ed_i 0) (atI_nat (j := 0) rfl)) (ed_s z))
  have holdE : ∀ {σ : L2.St} {H6 : Hp} {t : Tst} {te : TE}, σ[0]? = some (some (.ref d)) → σ[2]? = some (some v2) → Ex H5 H6 → t.deep ≤ 2 → TstOk cs.length t → EvD te σ H6 (eTst t) → EvD (tCall sp_hold2 [] E0 (tCons te (tCons (tDGet (tVar 0) (tC (.str "counters"))) (tCons (tVar 2) tNil)))) σ H6 (.bool (hold cs la t)) := fun h0 h2 e hd ht hte =>
    ed_callQ (ea1 hte (ea1 ((va5.ex e).d_counters h0) (ea1 (ed_var h2 (iv2.mono ((e3.trans e35).trans e))) ea0))) ⟨_, cs, la, rfl, hd, ht, lg, rfl⟩
  have adv : ∀ {H6 : Hp} {tz : TS}, Ex H5 H6 → (∀ (vf : V) (H7 : Hp), VA d cl fl dl al cs la (pre ++ [(b, i + 1)]) wd n H7 → ExM [d, cl, fl, dl, al] H H7 → Ims H7 (frs ++ [vf]) ((pre ++ [(b, i + 1)]).map eFrm) → H7 fl = some (.lst (frs ++ [vf])) → Im H7 v5 (eStm st) → Im H7 v2 (eLast la) →
      tz { nx := fun x H' => Q V.non H', rt := Q } [some (.ref d), some (.ref fl), some v2, some v3, some (.int (i : Nat)), some v5, none] H7) →
      tSeq (tAsg (tTup (tCons (tVar 3) (tCons (tOp (rI0 fun i j => .int (i + j)) (tVar 4) (tC (.int 1))) tNil))) (gSub (tVar 1) (tUn (rU fun i => V.int (-i)) (tC (.int 1))) rSetL)) tz { nx := fun x H' => Q V.non H', rt := Q } [some (.ref d), some (.ref fl), some v2, some v3, some (.int (i : Nat)), some v5, none] H6 := by
    intro H6 tz e6 k
    have e36 := e35.trans e6
    refine q_setLast (x := xf) (d := eFrm (b, i + 1)) (cut e36) (ed_tup (ea1 (wb e36) (ea1 (ed_I0 (g := fun i j => i + j) wi (ed_i 1)) ea0)) (by show 2 ≤ 100000; omega)) (ev_var rfl) fun vf H7 e7 hl7 ivf => ?_
    have e37 := e36.trans e7
    have va7 := va2.ex (e3.trans e37)
    have ims7 : Ims H7 (frs ++ [vf]) ((pre ++ [(b, i + 1)]).map eFrm) := by
      rw [List.map_append]
      exact Ims.append (frsI e37) (.cons ivf .nil)
    have tx := tx_lst (ys := frs ++ [vf]) hl7
    exact k vf _ (va7.set_f ims7) ((ExM.of (e03.trans e37)).trans (ExM.upd hl7 (by simp))) (ims7.tx tx (still_frms _)) upd_same ((i5.mono (e6.trans e7)).tx tx (still_stm st)) ((iv2.mono (e3.trans e37)).tx tx lg.still)
  -- an append of a frame
  have push : ∀ {σ : L2.St} {te : TE} {H7 : Hp} {vf : V} {fs2 : List Frm} {xs : List V} {x : List Stm}, σ[1]? = some (some (.ref fl)) → VA d cl fl dl al cs la fs2 wd n H7 → fs2.length ≤ 90001 → H7 fl = some (.lst xs) → Ims H7 xs (fs2.map eFrm) → EvD te σ H7 (eFrm (x, 0)) → ExM [d, cl, fl, dl, al] H H7 →
      (∀ H8, VA d cl fl dl al cs la (fs2 ++ [(x, 0)]) wd n H8 → ExM [d, cl, fl, dl, al] H H8 → ∀ H9, H8 = H9 → True) → ∀ {D : Ends}, (∀ H8, VA d cl fl dl al cs la (fs2 ++ [(x, 0)]) wd n H8 → ExM [d, cl, fl, dl, al] H H8 → D.nx σ H8) → tDrop (tBM K "list" rAppend (tVar 1) (tCons te tNil)) D σ H7 := by
    intro σ te H7 vf fs2 xs x h1 va7 hl7 hx7 ims7 hte em7 _ D k
    refine s_appA hx7 (ev_var h1) hte (by rw [ims7.length, List.length_map]; omega) fun v H8 e8 hl8 iv8 => ?_
    have va8 := va7.ex e8
    refine k _ (va8.set_f (frs' := xs ++ [v]) (by rw [List.map_append]; exact Ims.append (ims7.mono e8) (.cons iv8 .nil))) ((em7.trans (ExM.of e8)).trans (ExM.upd hl8 (by simp)))
  have stpF : ∀ {r : Sta}, stepF cs la pre b i = r → ∀ {H7 : Hp}, VA d cl fl dl al r.cs r.last r.fs wd n H7 → ExM [d, cl, fl, dl, al] H H7 → Q .non H7 := fun {r} h {_} va em => kk _ fl (.inl rfl) (by rw [h]; exact va) em
  have hlenpre : (pre ++ [(b, i + 1)]).length ≤ 90001 := by rw [List.length_append]; show _ + 1 ≤ _; omega
  have s0 : stepF cs la pre b i = (match b[i]? with
  | some (.add j n) => ⟨cs.set j (clip (cs.getD j 0 + n)), la, pre ++ [(b, i + 1)]⟩
  | some (.keep j) => ⟨cs.set j (clip (keptW la)), la, pre ++ [(b, i + 1)]⟩
  | some (.if_ t x y) => ⟨cs, la, pre ++ [(b, i + 1)] ++ [(if hold cs la t then x else y, 0)]⟩
  | some (.while_ t x) => if hold cs la t then ⟨cs, la, pre ++ [(b, i)] ++ [(x, 0)]⟩ else ⟨cs, la, pre ++ [(b, i + 1)]⟩
  | _ => ⟨cs, la, []⟩) := by first | (unfold stepF; rw [if_neg hib]; done) | (unfold stepF; rw [if_neg hib]; rfl)
  rw [hst] at s0
  cases st with
  | do_ o => exact absurd hst (nodo o)
  | add j q =>
    rw [StmOk] at sok
    refine q_when (b := false) (et_is (et_and (a := false) (b := false) (et_is (isw "while" (i5.mono (Ex.refl _))) (by simp only [stWord]; first | exact decide_eq_false (by decide +kernel) | decide +kernel)) (fun z => by cases z)) rfl) (fun z => by cases z) ?_
    intro _ H6 e6
    refine adv e6 fun vf H7 va7 em7 ims7 hx7 i57 i27 => ?_
    refine s_if (b := true) (et_is (isw "add" i57) (by simp only [stWord]; first | exact decide_eq_false (by decide +kernel) | decide +kernel)) ?_ (fun z => by cases z)
    intro _ H8 e8
    have i58 := i57.mono e8
    rw [eStm] at i58
    have va8 := va7.ex e8
    have w5 : ∀ {H9 : Hp}, Ex H8 H9 → EvD (tVar 5) [some (.ref d), some (.ref fl), some v2, some v3, some (.int (i : Nat)), some v5, none] H9 (.tuple [.str "add", .int (j : Nat), .int q]) := fun e => ed_var rfl (i58.mono e)
    refine call_run (vs := [.ref d, .int (j : Nat), .int (cs.getD j 0 + q)]) (ea_cons (ev_var rfl) (ea_cons (EvD.evI (ed_ixT (w5 (Ex.refl _)) (ed_i 1) rfl)) (ea_cons (EvD.evI (ed_I0 (g := fun i j => i + j) (ed_ixL (va8.d_counters rfl) (ed_ixT (w5 (Ex.refl _)) (ed_i 1) rfl) (atI_nat (at_c sok))) (ed_ixT (w5 (Ex.refl _)) (ed_i 2) rfl))) ea_nil))) fun H9 e9 => ?_
    refine ⟨d, cl, fl, dl, al, cs, la, _, wd, n, j, _, rfl, va8.ex e9, sok, fun HA vaA emA => ?_⟩
    exact stpF s0 vaA ((em7.trans (ExM.of (e8.trans e9))).trans emA)
  | keep j =>
    rw [StmOk] at sok
    refine q_when (b := false) (et_is (et_and (a := false) (b := false) (et_is (isw "while" (i5.mono (Ex.refl _))) (by simp only [stWord]; first | exact decide_eq_false (by decide +kernel) | decide +kernel)) (fun z => by cases z)) rfl) (fun z => by cases z) ?_
    intro _ H6 e6
    refine adv e6 fun vf H7 va7 em7 ims7 hx7 i57 i27 => ?_
    refine s_if (b := false) (et_is (isw "add" i57) (by simp only [stWord]; first | exact decide_eq_false (by decide +kernel) | decide +kernel)) (fun z => by cases z) ?_
    intro _ H8 e8
    refine s_if (b := true) (et_is (isw "keep" (i57.mono e8)) (by simp only [stWord]; first | exact decide_eq_false (by decide +kernel) | decide +kernel)) ?_ (fun z => by cases z)
    intro _ H9 e9
    have e79 := e8.trans e9
    obtain ⟨h1, h2, h3⟩ := has_ev (K := K) (σ := [some (.ref d), some (.ref fl), some v2, some v3, some (.int (i : Nat)), some v5, none]) (H := H9) (tl := tVar 2) lg (ed_var rfl (i27.mono e79))
    refine q_asgD h1 fun v6 HA eA i6 => ?_
    cases i6.b
    have e7A := e79.trans eA
    have i5A := i57.mono e7A
    rw [eStm] at i5A
    have vaA := va7.ex e7A
    obtain ⟨_, h2', _⟩ := has_ev (K := K) (σ := [some (.ref d), some (.ref fl), some v2, some v3, some (.int (i : Nat)), some v5, some (.bl (hasB la))]) (H := HA) (tl := tVar 2) lg (ed_var rfl (i27.mono e7A))
    show tDrop _ _ [some (.ref d), some (.ref fl), some v2, some v3, some (.int (i : Nat)), some v5, some (.bl (hasB la))] HA
    have kw : EvD (tIf (tTest (tVar 6)) (tOp (rIxT K) (tVar 2) (tC (.int 1))) (tC (.int 0))) [some (.ref d), some (.ref fl), some v2, some v3, some (.int (i : Nat)), some v5, some (.bl (hasB la))] HA (.int (keptW la)) := by
      refine ed_if (b := hasB la) (et_D (ed_var rfl (.bl _))) h2' (fun hh => ?_)
      rw [h3 hh]
      exact ed_i 0
    refine call_run (vs := [.ref d, .int (j : Nat), .int (keptW la)]) (ea_cons (ev_var rfl) (ea_cons (EvD.evI (ed_ixT (ed_var rfl i5A) (ed_i 1) rfl)) (ea_cons (EvD.evI kw) ea_nil))) fun HB eB => ?_
    refine ⟨d, cl, fl, dl, al, cs, la, _, wd, n, j, _, rfl, vaA.ex eB, sok, fun HC vaC emC => ?_⟩
    exact stpF s0 vaC ((em7.trans (ExM.of (e7A.trans eB))).trans emC)
  | if_ t x y =>
    rw [StmOk] at sok
    refine q_when (b := false) (et_is (et_and (a := false) (b := false) (et_is (isw "while" (i5.mono (Ex.refl _))) (by simp only [stWord]; first | exact decide_eq_false (by decide +kernel) | decide +kernel)) (fun z => by cases z)) rfl) (fun z => by cases z) ?_
    intro _ H6 e6
    refine adv e6 fun vf H7 va7 em7 ims7 hx7 i57 i27 => ?_
    refine s_if (b := false) (et_is (isw "add" i57) (by simp only [stWord]; first | exact decide_eq_false (by decide +kernel) | decide +kernel)) (fun z => by cases z) ?_
    intro _ H8 e8
    refine s_if (b := false) (et_is (isw "keep" (i57.mono e8)) (by simp only [stWord]; first | exact decide_eq_false (by decide +kernel) | decide +kernel)) (fun z => by cases z) ?_
    intro _ H9 e9
    refine s_if (b := true) (et_is (isw "if" (i57.mono (e8.trans e9))) (by simp only [stWord]; first | exact decide_eq_false (by decide +kernel) | decide +kernel)) ?_ (fun z => by cases z)
    intro _ HA eA
    have e7A := (e8.trans e9).trans eA
    have i5A := i57.mono e7A
    rw [eStm, eStms_map, eStms_map] at i5A
    have vaA := va7.ex e7A
    have w5 : EvD (tVar 5) [some (.ref d), some (.ref fl), some v2, some v3, some (.int (i : Nat)), some v5, none] HA (.tuple [.str "if", eTst t, eBlk x, eBlk y]) := ed_var rfl i5A
    refine push (vf := vf) (x := if hold cs la t then x else y) rfl vaA hlenpre (e7A _ _ hx7) (ims7.mono e7A) ?_ (em7.trans (ExM.of e7A)) (fun _ _ _ _ _ => trivial) fun HB vaB emB => stpF s0 vaB emB
    refine ed_tup (ea1 (ed_if (d := eBlk (if hold cs la t then x else y)) (et_DB (ed_callQ (ea1 (ed_ixT w5 (ed_i 1) rfl) (ea1 (vaA.d_counters rfl) (ea1 (ed_var rfl (i27.mono e7A)) ea0))) ⟨t, cs, la, rfl, sok.1.1, sok.1.2, lg, rfl⟩)) (fun h => ?_) (fun h => ?_)) (ea1 (ed_i 0) ea0)) (by show 2 ≤ 100000; omega)
    · rw [h, if_pos rfl]
      exact ed_ixT w5 (ed_i 2) rfl
    · rw [h, if_neg (by decide)]
      exact ed_ixT w5 (ed_i 3) rfl
  | while_ t x =>
    rw [StmOk] at sok
    have i5w : ∀ {H6 : Hp}, Ex H5 H6 → Im H6 v5 (.tuple [.str "while", eTst t, eBlk x]) := fun e => by
      have := i5.mono e
      rw [eStm, eStms_map] at this
      exact this
    refine q_when (b := hold cs la t) (et_is (et_and (a := true) (b := hold cs la t) (et_is (isw "while" (i5.mono (Ex.refl _))) (by simp only [stWord]; first | exact decide_eq_false (by decide +kernel) | decide +kernel)) (fun _ => et_DB (holdE rfl rfl (Ex.refl _) sok.1.1 sok.1.2 (ed_ixT (ed_var rfl (i5w (Ex.refl _))) (ed_i 1) rfl)))) rfl) ?_ ?_
    · intro hh H6 e6
      have va6 := va5.ex e6
      have hx6 := cut (e35.trans e6)
      have ims6 : Ims H6 (frs ++ [xf]) ((pre ++ [(b, i)]).map eFrm) := by rw [hfs]; exact hf2.mono ((e3.trans e35).trans e6)
      have s0 : stepF cs la pre b i = if hold cs la t then ⟨cs, la, pre ++ [(b, i)] ++ [(x, 0)]⟩ else ⟨cs, la, pre ++ [(b, i + 1)]⟩ := s0
      rw [hh, if_pos rfl] at s0
      refine push (vf := xf) (x := x) (D := { ({ nx := fun x H' => Q V.non H', rt := Q } : Ends) with nx := _ }) rfl va6 (by rw [List.length_append]; show _ + 1 ≤ _; omega) hx6 ims6 (ed_tup (ea1 (ed_ixT (ed_var rfl (i5w e6)) (ed_i 2) rfl) (ea1 (ed_i 0) ea0)) (by show 2 ≤ 100000; omega)) (em05.trans (ExM.of e6)) (fun _ _ _ _ _ => trivial) fun HB vaB emB => ?_
      exact stpF s0 vaB emB
    · intro hh H6 e6
      have s0 : stepF cs la pre b i = if hold cs la t then ⟨cs, la, pre ++ [(b, i)] ++ [(x, 0)]⟩ else ⟨cs, la, pre ++ [(b, i + 1)]⟩ := s0
      rw [hh, if_neg (by decide)] at s0
      refine adv e6 fun vf H7 va7 em7 ims7 hx7 i57 i27 => ?_
      refine s_if (b := false) (et_is (isw "add" i57) (by simp only [stWord]; first | exact decide_eq_false (by decide +kernel) | decide +kernel)) (fun z => by cases z) ?_
      intro _ H8 e8
      refine s_if (b := false) (et_is (isw "keep" (i57.mono e8)) (by simp only [stWord]; first | exact decide_eq_false (by decide +kernel) | decide +kernel)) (fun z => by cases z) ?_
      intro _ H9 e9
      refine s_if (b := false) (et_is (isw "if" (i57.mono (e8.trans e9))) (by simp only [stWord]; first | exact decide_eq_false (by decide +kernel) | decide +kernel)) (fun z => by cases z) ?_
      intro _ HA eA
      refine s_when (b := false) (et_is (isw "stop" (i57.mono ((e8.trans e9).trans eA))) (by simp only [stWord]; first | exact decide_eq_false (by decide +kernel) | decide +kernel)) (fun z => by cases z) ?_
      intro _ HB eB
      have e7B := ((e8.trans e9).trans eA).trans eB
      exact stpF s0 (va7.ex e7B) (em7.trans (ExM.of e7B))
  | stop =>
    refine q_when (b := false) (et_is (et_and (a := false) (b := false) (et_is (isw "while" (i5.mono (Ex.refl _))) (by simp only [stWord]; first | exact decide_eq_false (by decide +kernel) | decide +kernel)) (fun z => by cases z)) rfl) (fun z => by cases z) ?_
    intro _ H6 e6
    refine adv e6 fun vf H7 va7 em7 ims7 hx7 i57 i27 => ?_
    refine s_if (b := false) (et_is (isw "add" i57) (by simp only [stWord]; first | exact decide_eq_false (by decide +kernel) | decide +kernel)) (fun z => by cases z) ?_
    intro _ H8 e8
    refine s_if (b := false) (et_is (isw "keep" (i57.mono e8)) (by simp only [stWord]; first | exact decide_eq_false (by decide +kernel) | decide +kernel)) (fun z => by cases z) ?_
    intro _ H9 e9
    refine s_if (b := false) (et_is (isw "if" (i57.mono (e8.trans e9))) (by simp only [stWord]; first | exact decide_eq_false (by decide +kernel) | decide +kernel)) (fun z => by cases z) ?_
    intro _ HA eA
    refine s_when (b := true) (et_is (isw "stop" (i57.mono ((e8.trans e9).trans eA))) (by simp only [stWord]; first | exact decide_eq_false (by decide +kernel) | decide +kernel)) ?_ (fun z => by cases z)
    intro _ HB eB
    have e7B := ((e8.trans e9).trans eA).trans eB
    have vaB := va7.ex e7B
    obtain ⟨lv, hd1, hd2⟩ := vaB.hd
    refine s_dputN (ds := []) rfl hd1 (by show 6 < 100000; omega) (en_lst ea0 (by show 0 ≤ 100000; omega)) fun q xs HC nq eC aC bC hdC => ?_
    rw [vk_put_frames]
    have vaC := vaB.ex eC
    have emC : ExM [d, cl, fl, dl, al] H HC := em7.trans (ExM.of (e7B.trans eC))
    have fq : ∀ {a : Addr} {o : HO}, HB a = some o → a ≠ q := fun h z => by rw [z, nq] at h; cases h
    have vn := vaC.set_d (f' := q) (fs' := []) (w' := wd) (la' := la) (lv' := lv) (hd2.mono eC) lg ⟨xs, aC, bC⟩ ⟨fq vaB.hc, (fq vaB.hdn.choose_spec.1).symm, (fq vaB.han.choose_spec.1).symm⟩
    have hHq : q = fl ∨ H q = none := by
      right
      cases c0 : H q with
      | none => rfl
      | some o =>
        exfalso
        by_cases hm : q ∈ [d, cl, fl, dl, al]
        · simp only [List.mem_cons, List.not_mem_nil, or_false] at hm
          rcases hm with rfl | rfl | rfl | rfl | rfl
          · rw [hd1] at nq; cases nq
          · rw [vaB.hc] at nq; cases nq
          · obtain ⟨fr, h, _⟩ := vaB.hf; rw [h] at nq; cases nq
          · obtain ⟨fr, h, _⟩ := vaB.hdn; rw [h] at nq; cases nq
          · obtain ⟨fr, h, _⟩ := vaB.han; rw [h] at nq; cases nq
        · have := (em7.trans (ExM.of e7B)).1 q o hm c0
          rw [nq] at this; cases this
    refine kk _ q hHq ?_ (emC.trans (ExM.updD hdC (by simp)))
    rw [s0]
    exact vn
end
end K97
set_option Elab.async false
set_option linter.all false
set_option maxRecDepth 100000
set_option maxHeartbeats 4000000
namespace K97
open PySem PySem.Spec PyProof.Rows L2 Evl Pd
/-- the law's teller behind its choice -/
def After (d cl fl dl al : Addr) (n : Nat) (H : Hp) : Nx → Prop
  | .ended s => VA d cl fl dl al s.cs s.last s.fs "ended" n H
  | .does _ s => VA d cl fl dl al s.cs s.last s.fs "open" n H
  | .lost s => ∃ fs, VA d cl fl dl al s.cs s.last fs "lost" n H
def eCh : Nx → PyData
  | .does o _ => eOpT o
  | _ => .none
def sp_choice : Sp := fun vs H Q _ => ∃ (d cl fl dl al : Addr) (c : Nat) (s : Sta) (n : Nat), vs = [.ref d] ∧ VA d cl fl dl al s.cs s.last s.fs "open" n H ∧ c ≤ 1000 ∧ StaOk c 80000 s ∧ n ≤ 1000 ∧
  ∀ v H' fl', (fl' = fl ∨ H fl' = none) → After d cl fl' dl al (n + 1) H' (nextF 1000 s) → Im H' v (eCh (nextF 1000 s)) → ExM [d, cl, fl, dl, al] H H' → Q v H'
def sp_due : Sp := fun vs H Q _ => ∃ (d cl fl dl al : Addr) (c : Nat) (s : Sta) (n : Nat) (v : V), vs = [v, .ref d] ∧ VA d cl fl dl al s.cs s.last s.fs "open" n H ∧ Im H v (eNx (nextF 1000 s)) ∧ c ≤ 1000 ∧ StaOk c 80000 s ∧ n ≤ 1000 ∧
  ∀ H' fl', (fl' = fl ∨ H fl' = none) → After d cl fl' dl al (n + 1) H' (nextF 1000 s) → ExM [d, cl, fl, dl, al] H H' → Q (.bl true) H'
theorem mem5 {d cl fl fl' dl al : Addr} {H : Hp} (h : fl' = fl ∨ H fl' = none) : ∀ a ∈ [d, cl, fl', dl, al], a ∈ [d, cl, fl, dl, al] ∨ H a = none := fun a ha => by
  simp only [List.mem_cons, List.not_mem_nil, or_false] at ha ⊢
  rcases ha with rfl | rfl | rfl | rfl | rfl
  · exact .inl (.inl rfl)
  · exact .inl (.inr (.inl rfl))
  · rcases h with rfl | h
    · exact .inl (.inr (.inr (.inl rfl)))
    · exact .inr h
  · exact .inl (.inr (.inr (.inr (.inl rfl))))
  · exact .inl (.inr (.inr (.inr (.inr rfl))))
def NxOk (c k : Nat) : Nx → Prop
  | .ended s' => StaOk c k s'
  | .does o s' => StaOk c (k + 1) s' ∧ ∃ o', OpTOk c o' ∧ o = fillO s'.cs o'
  | .lost s' => s'.cs.length = c ∧ LastOk s'.last
theorem nextF_ok {c : Nat} : ∀ (n m : Nat) (s : Sta), StaOk c m s → NxOk c (m + n) (nextF n s)
  | 0, m, s, h => by rw [nextF]; exact ⟨h.len, h.last⟩
  | n + 1, m, s, h => by
    rcases List.eq_nil_or_concat s.fs with e | ⟨pre, ⟨b, i⟩, e⟩
    · rw [show nextF (n + 1) s = .ended s by rw [nextF, e]; rfl]
      exact ⟨h.len, h.last, h.fs, by have := h.many; omega⟩
    · rw [List.concat_eq_append] at e
      have gl : s.fs.getLast? = some (b, i) := by rw [e]; simp
      have dl : s.fs.dropLast = pre := by rw [e]; simp
      have enx : nextF (n + 1) s = match b[i]? with
        | some (.do_ o) => .does (fillO s.cs o) ⟨s.cs, s.last, pre ++ [(b, i + 1)]⟩
        | _ => nextF n (stepF s.cs s.last pre b i) := by first | (rw [nextF, gl, dl]; done) | (rw [nextF, gl, dl]; rfl)
      rw [enx]
      have go : NxOk c (m + (n + 1)) (nextF n (stepF s.cs s.last pre b i)) := by
        have := nextF_ok n (m + 1) _ (h.step e)
        rw [show m + 1 + n = m + (n + 1) by omega] at this
        exact this
      cases hb : b[i]? with
      | none => exact go
      | some st =>
        cases st with
        | do_ o =>
          have fb := h.fs (b, i) (by rw [e]; simp)
          have so := fb.1.at hb
          rw [StmOk] at so
          refine ⟨⟨h.len, h.last, fun f hf => ?_, ?_⟩, o, so, rfl⟩
          · rcases List.mem_append.mp hf with h1 | h1
            · exact h.fs f (by rw [e]; simp [h1])
            · cases List.mem_singleton.mp h1
              refine ⟨fb.1, ?_, fb.2.2⟩
              have := (List.getElem?_eq_some_iff.mp hb).1
              exact this
          · have := h.many
            rw [e, List.length_append] at this
            show (pre ++ [(b, i + 1)]).length ≤ _
            rw [List.length_append]
            simp only [List.length_cons, List.length_nil] at this ⊢
            omega
        | add j q => exact go
        | keep j => exact go
        | if_ t x y => exact go
        | while_ t x => exact go
        | stop => exact go
section
variable {P : Program} {w : World} {K : PySem.W.Frag} {mg : Str → Option Value} {base : Heap}
theorem cal__law_choice (S : Src K mg "_law_choice" st__law_choice ["voice"]) (T : Txt K mg) (C__law_inner : Cal P w K mg base CX0 2 "_law_inner" ["voice"] sp_linner) : Cal P w K mg base CX0 3 "_law_choice" ["voice"] sp_choice := by
  have sc := sc__law_choice
  refine S.cal (k := 2) sc (fun vs H Q E h => by obtain ⟨_, _, _, _, _, _, _, _, rfl, _⟩ := h; rfl) (fun f cdv A outer s H vs Q E hr h => ⟨_, (pss_cons (ps_if (pt_cmpR op_ne (pe_dget (hu_of hr) (pv 0) pe_str (fun _ _ => rfl)) pe_str (nomark _)) (pss_one (ps_ret pe_non)) pss_nil)
  (pss_cons (ps_for PassesOwn.never rfl (pi_range1 (by rfl) T.n_range (pa_cons pe_int pa_nil)) (pg_name (i := 1) sc.nd rfl (by first | exact Or.inl rfl | exact Or.inr rfl)) (pss_cons (ps_set (i := 2) sc.nd rfl (by first | exact Or.inl rfl | exact Or.inr rfl) (pe_dget (hu_of hr) (pv 0) pe_str (fun _ _ => rfl)))
  (pss_cons (ps_if (pt_cmpR op_eq (pe_callB (k_len_seq (K := K) rfl) (by rfl) T.n_len PySem.boot_len (pa_cons (pv 2) pa_nil)) pe_int (nomark _)) (pss_cons (ps_dput (hu_of hr) (pv 0) pe_str pe_str rfl)
  (pss_one (ps_ret pe_non))) pss_nil)
  (pss_cons (ps_asg (pe_ix (k_ix_list (K := K) rfl) (pv 2) (pe_un un_neg pe_int) (fun _ _ => rfl)) (k_pg_tup (K := K) (n := 2) rfl rfl (pgs_cons (pg_name (i := 3) sc.nd rfl (by first | exact Or.inl rfl | exact Or.inr rfl)) (pgs_cons (pg_name (i := 4) sc.nd rfl (by first | exact Or.inl rfl | exact Or.inr rfl)) pgs_nil))))
  (pss_cons (ps_if (PW.pt (pw_and (pt_cmpR op_lt (pv 4) (pe_callB (k_len_seq (K := K) rfl) (by rfl) T.n_len PySem.boot_len (pa_cons (pv 3) pa_nil)) (nomark _)) (pw_and1 (pt_cmpR op_eq (pe_ix (k_ix_tup (K := K) rfl) (pe_ix (k_ix_tup (K := K) rfl) (pv 3) (pv 4) (fun _ _ => rfl)) pe_int (fun _ _ => rfl)) pe_str (nomark _))))) (pss_cons (ps_asg (pe_tup (pa_cons (pv 3) (pa_cons (pe_op op_add (pv 4) pe_int) pa_nil))) (pg_sub (pv 2) (pe_un un_neg pe_int) set_list))
  (pss_cons (ps_set (i := 5) sc.nd rfl (by first | exact Or.inl rfl | exact Or.inr rfl) (pe_ix (k_ix_tup (K := K) rfl) (pe_ix (k_ix_tup (K := K) rfl) (pv 3) (pv 4) (fun _ _ => rfl)) pe_int (fun _ _ => rfl)))
  (pss_cons (ps_if (PW.pt (pw_and (pt_cmpR op_eq (pe_ix (k_ix_tup (K := K) rfl) (pv 5) pe_int (fun _ _ => rfl)) pe_str (nomark _)) (pw_and1 (pt_val (pe_callB (k_isi (K := K) rfl) (by rfl) T.n_isinstance (by decide +kernel) (pa_cons (pe_ix (k_ix_tup (K := K) rfl) (pv 5) pe_int (fun _ _ => rfl)) (pa_cons (pe_bltn (v := .ty "tuple") (by rfl) T.n_tuple (by decide +kernel) rfl) pa_nil))))))) (pss_one (ps_set (i := 5) sc.nd rfl (by first | exact Or.inl rfl | exact Or.inr rfl) (pe_op (k_catA (K := K) rfl) (pe_slice (k_sl_tupA (K := K) rfl) (pv 5) po_none (po_some pe_int)) (pe_tup (pa_cons (pe_ix (k_ix_list (K := K) rfl) (pe_dget (hu_of hr) (pv 0) pe_str (fun _ _ => rfl)) (pe_ix (k_ix_tup (K := K) rfl) (pe_ix (k_ix_tup (K := K) rfl) (pv 5) pe_int (fun _ _ => rfl)) pe_int (fun _ _ => rfl)) (fun _ _ => rfl)) pa_nil))))) pss_nil)
  (pss_cons (ps_expr (k_append (K := K) rfl (pe_dget (hu_of hr) (pv 0) pe_str (fun _ _ => rfl)) (pa_cons (pv 5) pa_nil)))
  (pss_one (ps_ret (pv 5))))))) pss_nil)
  (pss_one (ps_expr (pe_cal C__law_inner (hr.mono (by first | decide | omega)) rfl pass0 (pa_cons (pv 0) pa_nil)))))))))
  (pss_cons (ps_dput (hu_of hr) (pv 0) pe_str pe_str rfl)
  (pss_one (ps_ret pe_non))))), ?_⟩)
  obtain ⟨d, cl, fl, dl, al, c, s0, n, rfl, va, hc, ok, hn, kk⟩ := h
  show tSeq (tIfS _ _ _) _ _ [some (.ref d), none, none, none, none, none] H
  refine q_when (b := false) (et_is (et_D (ed_neS (va.d_word rfl) (ed_s "open"))) (by simp)) (fun z => by cases z) ?_
  intro _ H1 e1
  have va1 := va.ex e1
  refine q_forR1 (n := 1000) (ea_cons ev_c ea_nil) ⟨by omega, by omega⟩
    (fun k σ H' => ∃ (s : Sta) (fl' : Addr) (o1 o2 o3 o4 o5 : Option V), σ = [some (.ref d), o1, o2, o3, o4, o5] ∧ VA d cl fl' dl al s.cs s.last s.fs "open" n H' ∧ (fl' = fl ∨ H fl' = none) ∧ ExM [d, cl, fl, dl, al] H H' ∧ StaOk c (80000 + k) s ∧ nextF 1000 s0 = nextF (1000 - k) s) ?_ ?_ ?_
  · intro H2 e2
    exact ⟨s0, fl, none, none, none, none, none, rfl, va1.ex e2, .inl rfl, ExM.of (e1.trans e2), ok, rfl⟩
  · rintro k σ' H4 hk ⟨s, fl', o1, o2, o3, o4, o5, rfl, va4, hfl, em4, so, en⟩
    have hk1 : k < 1000 := by omega
    obtain ⟨m, hm⟩ : ∃ m, 1000 - k = m + 1 := ⟨999 - k, by omega⟩
    rw [hm] at en
    have many := so.many
    show tSeq (tAsg _ _) _ _ [some (.ref d), some (.int (k : Nat)), o2, o3, o4, o5] H4
    refine q_asg (va4.e_frames rfl) fun H5 e5 => ?_
    have va5 := va4.ex e5
    obtain ⟨frs, hf1, hf2⟩ := va5.hf
    have em5 : ExM [d, cl, fl, dl, al] H H5 := em4.trans (ExM.of e5)
    show tSeq (tIfS _ _ _) _ _ [some (.ref d), some (.int (k : Nat)), some (.ref fl'), o3, o4, o5] H5
    have imf : ∀ {H6 : Hp}, Ex H5 H6 → Im H6 (.ref fl') (.list (s.fs.map eFrm)) := fun e => (Im.lst hf1 hf2).mono e
    refine q_when (b := s.fs.isEmpty) (et_is (et_D (ed_eqI (ed_lenL (ed_var rfl (imf (Ex.refl _)))) (ed_i 0))) (by rw [List.length_map]; cases s.fs <;> simp; omega)) ?_ ?_
    · intro hb H6 e6
      have hnil : s.fs = [] := List.isEmpty_iff.mp hb
      have eN : nextF 1000 s0 = .ended s := by rw [en, nextF, hnil]; rfl
      have va6 := va5.ex e6
      obtain ⟨lv, hd1, hd2⟩ := va6.hd
      refine q_dputD (d := .str "ended") rfl hd1 (by show 6 < 100000; omega) (ed_s _) fun v H7 e7 iv hd7 => ?_
      cases iv.s
      rw [vk_put_word]
      have va7 := va6.ex e7
      refine s_retD ed_n fun v H8 e8 iv8 => ?_
      refine kk v H8 fl' hfl ?_ ?_ ?_
      · rw [eN]
        exact ((va7.set_d (w' := "ended") (hd2.mono e7) va7.lg va7.hf ⟨va7.ne.1, va7.ne.2.2.2.1, va7.ne.2.2.2.2.1⟩).le (by omega)).ex e8
      · rw [eN]; exact iv8
      · exact ((em5.trans (ExM.of (e6.trans e7))).trans (ExM.updD hd7 (by simp))).trans (ExM.of e8)
    intro hb H6 e6
    obtain ⟨pre, b, i, hfs⟩ : ∃ pre b i, s.fs = pre ++ [(b, i)] := by
      rcases List.eq_nil_or_concat s.fs with h | ⟨pre, ⟨b, i⟩, h⟩
      · rw [h] at hb; cases hb
      · exact ⟨pre, b, i, by rw [h, List.concat_eq_append]⟩
    have hmap : s.fs.map eFrm = pre.map eFrm ++ [eFrm (b, i)] := by rw [hfs, List.map_append]; rfl
    rw [hmap] at hf2
    obtain ⟨frs, xf, rfl, hf3, hf4⟩ := hf2.snoc
    refine q_un2 (ed_ixL (ds := pre.map eFrm ++ [eFrm (b, i)]) (ed_var rfl (hmap ▸ imf e6)) ed_m1 (atI_last _ _)) fun v3 v4 H7 e7 i3 i4 => ?_
    cases i4.i
    have e57 := e6.trans e7
    show tSeq (tIfS _ _ _) _ _ [some (.ref d), some (.int (k : Nat)), some (.ref fl'), some v3, some (.int (i : Nat)), o5] H7
    have wb : ∀ {n5 : Option V} {H8}, Ex H7 H8 → EvD (tVar 3) [some (.ref d), some (.int (k : Nat)), some (.ref fl'), some v3, some (.int (i : Nat)), n5] H8 (eBlk b) := fun e => ed_var rfl (i3.mono e)
    have wi : ∀ {n5 : Option V} {H8}, EvD (tVar 4) [some (.ref d), some (.int (k : Nat)), some (.ref fl'), some v3, some (.int (i : Nat)), n5] H8 (.int (i : Nat)) := ed_var rfl (.int (i : Nat))
    have fb : FrmOk c (b, i) := so.fs (b, i) (by rw [hfs]; simp)
    have hlen : pre.length + 1 ≤ 80000 + k := by rw [hfs] at many; simpa using many
    have gl : s.fs.getLast? = some (b, i) := by rw [hfs]; simp
    have dlp : s.fs.dropLast = pre := by rw [hfs]; simp
    have enx : nextF 1000 s0 = match b[i]? with
        | some (.do_ o) => .does (fillO s.cs o) ⟨s.cs, s.last, pre ++ [(b, i + 1)]⟩
        | _ => nextF m (stepF s.cs s.last pre b i) := by first | (rw [en, nextF, gl, dlp]; done) | (rw [en, nextF, gl, dlp]; rfl)
    have wst : ∀ {n5 : Option V} {H8} {st : Stm}, b[i]? = some st → Ex H7 H8 → EvD (tOp (rIxT K) (tVar 3) (tVar 4)) [some (.ref d), some (.int (k : Nat)), some (.ref fl'), some v3, some (.int (i : Nat)), n5] H8 (eStm st) := fun h e => ed_ixT (wb e) wi (atI_nat (by rw [List.getElem?_map, h]; rfl))
    have va7 : VA d cl fl' dl al s.cs s.last (pre ++ [(b, i)]) "open" n H7 := hfs ▸ va5.ex e57
    have em7 := em5.trans (ExM.of e57)
    refine q_when (b := match b[i]? with | some (.do_ _) => true | _ => false) (et_is (et_and (et_D (EvD.is (ed_B0 (g := fun i j => decide (i < j)) wi (ed_lenT (wb (Ex.refl H7)))) (show PyData.bool (decide (((i : Nat) : Int) < ((b.map eStm).length : Int))) = .bool (decide (i < b.length)) by rw [List.length_map]; exact congrArg PyData.bool (decide_eq_decide.mpr (by omega))))) (b := match b[i]? with | some (.do_ _) => true | _ => false) (fun h => ?_)) ?_) ?_ ?_
    · have hlt := of_decide_eq_true h
      obtain ⟨st, hst⟩ : ∃ st, b[i]? = some st := ⟨_, List.getElem?_eq_getElem hlt⟩
      obtain ⟨l, hl⟩ := eStm_word st
      have := hl ▸ wst (n5 := o5) hst (Ex.refl H7)
      refine et_is (et_D (ed_eqS (ed_ixT this (ed_i 0) (atI_nat (j := 0) rfl)) (ed_s "do"))) ?_
      rw [hst]
      cases st <;> first | rfl | (simp only [stWord]; exact decide_eq_false (by decide +kernel))
    · by_cases hlt : i < b.length
      · rw [decide_eq_true hlt]; rfl
      · rw [decide_eq_false hlt, List.getElem?_eq_none (by omega)]; rfl
    · intro hd H8 e8
      obtain ⟨o, hst⟩ : ∃ o, b[i]? = some (.do_ o) := by
        revert hd
        cases hb : b[i]? with
        | none => intro h; cases h
        | some st => cases st <;> intro h <;> first | exact ⟨_, rfl⟩ | cases h
      rw [hst] at enx
      have oo : OpTOk s.cs.length o := by
        have := fb.1.at hst
        rw [StmOk, ← so.len] at this
        exact this
      have fin : ∀ (vo : V) (H9 : Hp), VA d cl fl' dl al s.cs s.last (pre ++ [(b, i + 1)]) "open" n H9 → ExM [d, cl, fl, dl, al] H H9 → Im H9 vo (eOpT (fillO s.cs o)) → tSeq (tDrop (tBM K "list" rAppend (tDGet (tVar 0) (tC (.str "done"))) (tCons (tVar 5) tNil))) (tRet (tVar 5)) { nx := fun σ3 H6 => ∃ (s : Sta) (fl' : Addr) (o1 o2 o3 o4 o5 : Option V), σ3 = [some (.ref d), o1, o2, o3, o4, o5] ∧ VA d cl fl' dl al s.cs s.last s.fs "open" n H6 ∧ (fl' = fl ∨ H fl' = none) ∧ ExM [d, cl, fl, dl, al] H H6 ∧ StaOk c (80000 + (k + 1)) s ∧ nextF 1000 s0 = nextF (1000 - (k + 1)) s, ct := fun _ _ => True, bk := fun _ _ => True, rt := Q } [some (.ref d), some (.int (k : Nat)), some (.ref fl'), some v3, some (.int (i : Nat)), some vo] H9 := by
        intro vo H9 va9 em9 iv9
        obtain ⟨dn, hdn1, hdn2⟩ := va9.hdn
        refine q_appA hdn1 (va9.e_done rfl) (ed_var rfl iv9) (by omega) fun v1 HA eA hdA ivA => ?_
        have vaB := (va9.ex eA).app_d (v := v1) hdA
        have sto : still (eOpT (fillO s.cs o)) = true := still_op _
        have ivB := (iv9.mono eA).tx (tx_lst (ys := dn ++ [v1]) hdA) sto
        refine s_retD (ed_var rfl ivB) fun v2 HC eC ivC => ?_
        refine kk v2 HC fl' hfl ?_ ?_ ?_
        · rw [enx]; exact vaB.ex eC
        · rw [enx]; exact ivC
        · refine (em9.trans (ExM.of eA)).trans ?_
          exact (ExM.upd hdA (by simp)).trans (ExM.of eC)
      have hx8 := e8 _ _ (e57 _ _ hf1)
      refine q_setLast (x := xf) (d := eFrm (b, i + 1)) hx8 (ed_tup (ea1 (wb e8) (ea1 (ed_I0 (g := fun i j => i + j) wi (ed_i 1)) ea0)) (by show 2 ≤ 100000; omega)) (ev_var rfl) fun vf H9 e9 hl9 ivf => ?_
      have e79 := e8.trans e9
      have va9 := va7.ex e79
      have ims9 : Ims H9 (frs ++ [vf]) ((pre ++ [(b, i + 1)]).map eFrm) := by
        rw [List.map_append]
        exact Ims.append (hf3.mono (e57.trans e79)) (.cons ivf .nil)
      obtain ⟨HA, hHA⟩ : ∃ HA, HA = upd H9 fl' (.lst (frs ++ [vf])) := ⟨_, rfl⟩
      have tx := tx_lst (ys := frs ++ [vf]) hl9
      rw [← hHA] at tx ⊢
      have vaA : VA d cl fl' dl al s.cs s.last (pre ++ [(b, i + 1)]) "open" n HA := by rw [hHA]; exact va9.set_f ims9
      have emA : ExM [d, cl, fl, dl, al] H HA := by
        rw [hHA]
        exact ((em7.trans (ExM.of e79)).step (ExM.upd (M := [d, cl, fl', dl, al]) hl9 (by simp)) (mem5 hfl))
      have i3A : Im HA v3 (eBlk b) := (i3.mono e79).tx tx (still_blk b)
      have wbA : ∀ {n5 : Option V} {H8}, Ex HA H8 → EvD (tOp (rIxT K) (tVar 3) (tVar 4)) [some (.ref d), some (.int (k : Nat)), some (.ref fl'), some v3, some (.int (i : Nat)), n5] H8 (.tuple [.str "do", eOpT o]) := fun {n5} {H8} e => by
        have : EvD (tOp (rIxT K) (tVar 3) (tVar 4)) [some (.ref d), some (.int (k : Nat)), some (.ref fl'), some v3, some (.int (i : Nat)), n5] H8 (eStm (.do_ o)) := ed_ixT (ed_var rfl (i3A.mono e)) wi (atI_nat (by rw [List.getElem?_map, hst]; rfl))
        rw [eStm] at this
        exact this
      show tSeq (tAsg _ _) _ _ [some (.ref d), some (.int (k : Nat)), some (.ref fl'), some v3, some (.int (i : Nat)), o5] HA
      refine q_asgD (d := eOpT o) (ed_ixT (wbA (Ex.refl _)) (ed_i 1) rfl) fun v5 HB eB i5 => ?_
      have vaB := vaA.ex eB
      have emB := emA.trans (ExM.of eB)
      show tSeq (tIfS _ _ _) _ _ [some (.ref d), some (.int (k : Nat)), some (.ref fl'), some v3, some (.int (i : Nat)), some v5] HB
      cases o with
      | plain wd ns =>
        have w5 : ∀ {H8}, Ex HB H8 → EvD (tVar 5) [some (.ref d), some (.int (k : Nat)), some (.ref fl'), some v3, some (.int (i : Nat)), some v5] H8 (.tuple (.str wd :: ns.map .int)) := fun e => ed_var rfl (i5.mono e)
        refine q_when (b := false) (et_is (et_and (a := decide (wd = "set")) (b := false) (et_D (ed_eqS (ed_ixT (w5 (Ex.refl _)) (ed_i 0) (atI_nat (j := 0) rfl)) (ed_s "set"))) (fun h => ?_)) (by simp)) (fun z => by cases z) ?_
        · have hl : ns.length = 3 := plain_set oo (of_decide_eq_true h)
          obtain ⟨n1, n2, n3, rfl⟩ : ∃ a b c, ns = [a, b, c] := by
            match ns, hl with
            | [a, b, c], _ => exact ⟨a, b, c, rfl⟩
          exact et_DB (ed_isi (ed_ixT (w5 (Ex.refl _)) (ed_i 3) rfl) kt_int_tuple)
        · intro _ HC eC
          exact fin v5 HC (vaB.ex eC) (emB.trans (ExM.of eC)) (i5.mono eC)
      | setc r q j =>
        have hj : j < s.cs.length := oo
        have w5 : ∀ {H8}, Ex HB H8 → EvD (tVar 5) [some (.ref d), some (.int (k : Nat)), some (.ref fl'), some v3, some (.int (i : Nat)), some v5] H8 (.tuple [.str "set", .int r, .int q, .tuple [.str "counter", .int (j : Nat)]]) := fun e => ed_var rfl (i5.mono e)
        refine q_when (b := true) (et_is (et_and (a := true) (b := true) (et_is (et_D (ed_eqS (ed_ixT (w5 (Ex.refl _)) (ed_i 0) rfl) (ed_s "set"))) (by decide +kernel)) (fun _ => et_DB (ed_isi (ed_ixT (w5 (Ex.refl _)) (ed_i 3) rfl) kt_tuple_tuple))) rfl) ?_ (fun z => by cases z)
        intro _ HC eC
        refine s_asgD (d := eOpT (fillO s.cs (.setc r q j))) (EvD.is (ed_catA (ds := [.str "set", .int r, .int q]) (EvD.is (ed_slA (w5 eC) eo_none (eo_i (ed_i 3))) rfl) (ed_tup (ea1 (ed_ixL ((vaB.ex eC).d_counters rfl) (ed_ixT (ed_ixT (w5 eC) (ed_i 3) rfl) (ed_i 1) rfl) (atI_nat (at_c hj))) ea0) (by show 1 ≤ 100000; omega)) (by show 3 + 1 ≤ 100000; omega)) rfl) fun v6 HD eD i6 => ?_
        exact fin v6 HD (vaB.ex (eC.trans eD)) (emB.trans (ExM.of (eC.trans eD))) i6
    · intro hd H8 e8
      have nodo : ∀ o, b[i]? ≠ some (.do_ o) := fun o z => by rw [z] at hd; cases hd
      have en2 : nextF 1000 s0 = nextF m (stepF s.cs s.last pre b i) := by
        rw [enx]
        revert hd
        cases hb : b[i]? with
        | none => intro _; rfl
        | some st => cases st <;> intro h <;> first | rfl | cases h
      refine call_run (vs := [.ref d]) (ea_cons (ev_var rfl) ea_nil) fun H9 e9 => ?_
      have e79 := e8.trans e9
      refine ⟨d, cl, fl', dl, al, s.cs, s.last, pre, b, i, "open", n, rfl, va7.ex e79, by omega, by rw [so.len]; exact fb.1, fb.2.1, nodo, fun HA fl2 hfl2 vaA emA => ?_⟩
      have em9 := em7.trans (ExM.of e79)
      have hfl3 : fl2 = fl ∨ H fl2 = none := by
        rcases hfl2 with rfl | h2
        · exact hfl
        · by_cases hq : fl2 = fl
          · exact .inl hq
          · right
            cases c0 : H fl2 with
            | none => rfl
            | some o =>
              exfalso
              by_cases hm : fl2 ∈ [d, cl, fl, dl, al]
              · have va9 := va7.ex e79
                simp only [List.mem_cons, List.not_mem_nil, or_false] at hm
                rcases hm with rfl | rfl | rfl | rfl | rfl
                · obtain ⟨_, h, _⟩ := va9.hd; rw [h] at h2; cases h2
                · rw [va9.hc] at h2; cases h2
                · exact hq rfl
                · obtain ⟨_, h, _⟩ := va9.hdn; rw [h] at h2; cases h2
                · obtain ⟨_, h, _⟩ := va9.han; rw [h] at h2; cases h2
              · have := em9.1 _ _ hm c0
                rw [h2] at this; cases this
      exact ⟨stepF s.cs s.last pre b i, fl2, _, _, _, _, _, rfl, vaA, hfl3, em9.step emA (mem5 hfl), so.step hfs, by rw [en2]; congr 1; omega⟩
  · rintro σ' H' ⟨s, fl', o1, o2, o3, o4, o5, rfl, va4, hfl, em4, so, en⟩
    have en2 : nextF 1000 s0 = .lost ⟨s.cs, s.last, []⟩ := en
    obtain ⟨lv, hd1, hd2⟩ := va4.hd
    refine q_dputD (d := .str "lost") rfl hd1 (by show 6 < 100000; omega) (ed_s _) fun v H7 e7 iv hd7 => ?_
    cases iv.s
    rw [vk_put_word]
    have va7 := va4.ex e7
    refine s_retD ed_n fun v H8 e8 iv8 => ?_
    refine kk v H8 fl' hfl ?_ ?_ ?_
    · rw [en2]
      exact ⟨s.fs, ((va7.set_d (w' := "lost") (hd2.mono e7) va7.lg va7.hf ⟨va7.ne.1, va7.ne.2.2.2.1, va7.ne.2.2.2.2.1⟩).le (by omega)).ex e8⟩
    · rw [en2]; exact iv8
    · exact ((em4.trans (ExM.of e7)).trans (ExM.updD hd7 (by simp))).trans (ExM.of e8)
end
end K97
set_option Elab.async false
set_option linter.all false
set_option maxRecDepth 100000
set_option maxHeartbeats 4000000
namespace Pd
open PySem PyProof.Rows L2 Evl
section
variable {K : PySem.W.Frag} {σ : L2.St} {H H' : Hp} {ta tb te : TE} {u : TT} {d : PyData} {ds es : List PyData} {D : Ends} {tu tz : TS} {t c : Addr} {P : PyData → Prop} {PB : Bool → Prop}
/-- if not f(..): with what f's promise gives -/
theorem q_notR (h : te σ H fun x H1 => ∃ c, x = .bl c ∧ (if (!c) = true then tu { D with nx := tz D } σ H1 else tz D σ H1)) : tSeq (tIfS (tNot (tB te)) tu tNext) tz D σ H := h
theorem en_if {b : Bool} (h : EvT u σ H b) (h1 : b = true → EvN ta σ H ds) (h2 : b = false → EvN tb σ H ds) : EvN (tIf u ta tb) σ H ds := fun H1 e Q q => h H1 e _ fun H2 e2 => by
  cases b with
  | true =>
    show ta σ H2 Q
    exact h1 rfl H2 (e.trans e2) Q fun p xs H3 n e3 => q p xs H3 (fresh_back e2 n) (e2.trans e3)
  | false =>
    show tb σ H2 Q
    exact h2 rfl H2 (e.trans e2) Q fun p xs H3 n e3 => q p xs H3 (fresh_back e2 n) (e2.trans e3)
theorem eg_orV (h1 : EvG t c ta σ H fun d => ∃ b, d = .bool b ∧ PB b) (ht : PB true → P (.bool true)) (h2 : PB false → EvG t c tb σ H P) : EvG t c (tOrV ta tb) σ H P := fun H1 g Q q => h1 H1 g _ fun v d H2 g2 s ⟨b, ed, p⟩ iv => by
  subst ed
  refine ⟨b, iv.b, ?_⟩
  cases b with
  | true =>
    show Q (.bl true) H2
    exact q _ _ H2 g2 rfl (ht p) (.bl _)
  | false =>
    show tb σ H2 Q
    exact h2 p H2 (g.trans g2) Q fun v d H3 g3 => q v d H3 (g2.trans g3)
/-- a change of what was not there before -/
theorem Go.m {M : List Addr} {H1 H2 : Hp} (g : Go t c H H1) (T : Tape t c H) (e : ExM M H1 H2) (hM : ∀ a ∈ M, H a = none) : Go t c H H2 := by
  have nt : t ∉ M := fun z => T.some_t (hM t z)
  have nc : c ∉ M := fun z => T.some_c (hM c z)
  refine ⟨⟨fun a o n ha => e.1 a o (fun z => by rw [hM a z] at ha; cases ha) (g.1.1 a o n ha), g.1.2.trans e.2⟩, ?_⟩
  obtain ⟨ne, ⟨s, h1, h2⟩, ⟨ns, h3, h4⟩⟩ := g.2
  exact ⟨ne, ⟨s, e.1 _ _ nt h1, h2⟩, ⟨ns, e.1 _ _ nc h3, h4⟩⟩
theorem cut_mem {lo hi : Option Int} {x : PyData} (h : x ∈ cutD ds lo hi) : x ∈ ds := List.mem_of_mem_drop (List.mem_of_mem_take h)
end
end Pd
namespace K97
open PySem PySem.Spec PyProof.Rows L2 Evl Pd
def nxS : Nx → Sta
  | .ended s => s
  | .does _ s => s
  | .lost s => s
def nxW : Nx → Str
  | .ended _ => "ended"
  | .does _ _ => "open"
  | .lost _ => "lost"
theorem stepF_last (cs : List Int) (a : Option Ans) (pre : List Frm) (b : List Stm) (i : Nat) : (stepF cs a pre b i).last = a := by
  unfold stepF
  by_cases h : i = b.length
  · rw [if_pos h]
  rw [if_neg h]
  cases b[i]? with
  | none => rfl
  | some st =>
    cases st with
    | while_ t x => show Sta.last (if _ then _ else _) = a; split <;> rfl
    | _ => rfl
theorem nextF_last : ∀ (n : Nat) (s : Sta), (nxS (nextF n s)).last = s.last
  | 0, s => rfl
  | n + 1, s => by
    rcases List.eq_nil_or_concat s.fs with e | ⟨pre, ⟨b, i⟩, e⟩
    · rw [show nextF (n + 1) s = .ended s by rw [nextF, e]; rfl]; rfl
    · rw [List.concat_eq_append] at e
      have gl : s.fs.getLast? = some (b, i) := by rw [e]; simp
      have dl : s.fs.dropLast = pre := by rw [e]; simp
      have enx : nextF (n + 1) s = match b[i]? with
        | some (.do_ o) => .does (fillO s.cs o) ⟨s.cs, s.last, pre ++ [(b, i + 1)]⟩
        | _ => nextF n (stepF s.cs s.last pre b i) := by first | (rw [nextF, gl, dl]; done) | (rw [nextF, gl, dl]; rfl)
      rw [enx]
      have go : (nxS (nextF n (stepF s.cs s.last pre b i))).last = s.last := by rw [nextF_last n, stepF_last]
      cases b[i]? with
      | none => exact go
      | some st => cases st <;> first | exact go | rfl
theorem still_sta {s : Sta} (h : LastG s.last) : still (eSta s) = true := by
  show (stills (s.cs.map PyData.int) && (still (eLast s.last) && (stills (s.fs.map eFrm) && true))) = true
  rw [stills_ints, h.still, still_frms]; rfl
theorem still_nx {nx : Nx} (h : LastG (nxS nx).last) : still (eNx nx) = true := by
  cases nx with
  | ended s => show (still (.str "ended") && (still (eSta s) && true)) = true; rw [still_sta (s := s) h]; rfl
  | does o s => show (still (.str "do") && (still (eOpT o) && (still (eSta s) && true))) = true; rw [still_sta (s := s) h, still_op]; rfl
  | lost s => show (still (.str "lost") && (still (eSta s) && true)) = true; rw [still_sta (s := s) h]; rfl
theorem okup : ∀ {m n : Nat} {x : PyData}, OkS m x → m ≤ n → OkS n x := by
  intro m n x h
  induction h generalizing n with
  | str m s hs => intro _; exact .str n s hs
  | int m i => intro _; exact .int n i
  | bool m i => intro _; exact .bool n i
  | non m => intro _; exact .non n
  | tup m ds hl hm ih =>
    intro hmn
    obtain ⟨n, rfl⟩ : ∃ n', n = n' + 1 := ⟨n - 1, by omega⟩
    exact .tup n ds hl fun x hx => ih x hx (by omega)
def eSeen (s : Sta) : PyData := .tuple [eSta s, eNx (nextF 1000 s)]
structure SeenOk (c : Nat) (s : Sta) : Prop where
  sta : StaOk c 80000 s
  lg : LastG s.last
theorem still_seen {c : Nat} {s : Sta} (h : SeenOk c s) : still (eSeen s) = true := by
  show (still (eSta s) && (still (eNx (nextF 1000 s)) && true)) = true
  rw [still_sta h.lg, still_nx (by rw [nextF_last]; exact h.lg)]; rfl
def D_talk (ds : List PyData) (P : PyData → Prop) : Prop := ∃ (cnt : Nat) (bl : List Stm) (n : Nat), ds = [eTel cnt bl, .int (n : Nat)] ∧ TelOk cnt bl ∧ n ≤ 12 ∧ P (.bool true)
section
variable {P : Program} {w : World} {K : PySem.W.Frag} {mg : Str → Option Value} {base : Heap}
theorem cal__law_is_due (S : Src K mg "_law_is_due" st__law_is_due ["found", "voice"]) (T : Txt K mg) (C__law_choice : Cal P w K mg base CX0 3 "_law_choice" ["voice"] sp_choice) (C__law_same : Cal P w K mg base CX0 4 "_law_same" ["one", "other"] (sp_same 3)) : Cal P w K mg base CX0 5 "_law_is_due" ["found", "voice"] sp_due := by
  have sc := sc__law_is_due
  refine S.cal (k := 4) sc (fun vs H Q E h => by obtain ⟨_, _, _, _, _, _, _, _, _, rfl, _⟩ := h; rfl) (fun f cdv A outer s H vs Q E hr h => ⟨_, (pss_cons (ps_set (i := 2) sc.nd rfl (by first | exact Or.inl rfl | exact Or.inr rfl) (pe_cal C__law_choice (hr.mono (by first | decide | omega)) rfl pass0 (pa_cons (pv 1) pa_nil)))
  (pss_cons (ps_if (PW.pt (pw_or (pt_not (pt_val (pe_callB (k_isi (K := K) rfl) (by rfl) T.n_isinstance (by decide +kernel) (pa_cons (pv 0) (pa_cons (pe_bltn (v := .ty "tuple") (by rfl) T.n_tuple (by decide +kernel) rfl) pa_nil))))) (pw_or1 (pt_cmpR op_ne (pe_callB (k_len_seq (K := K) rfl) (by rfl) T.n_len PySem.boot_len (pa_cons (pv 0) pa_nil)) (pe_ifExp (pt_cmpR op_isN (pv 2) pe_non (nomark _)) pe_int pe_int) (nomark _))))) (pss_one (ps_ret pe_bl)) pss_nil)
  (pss_cons (ps_if (pt_cmpR op_isN (pv 2) pe_non (nomark _)) (pss_one (ps_ret (pe_cal C__law_same (hr.mono (by first | decide | omega)) rfl pass0 (pa_cons (pe_ix (k_ix_tup (K := K) rfl) (pv 0) pe_int (fun _ _ => rfl)) (pa_cons (pe_dget (hu_of hr) (pv 1) pe_str (fun _ _ => rfl)) pa_nil))))) pss_nil)
  (pss_one (ps_ret (pe_cal C__law_same (hr.mono (by first | decide | omega)) rfl pass0 (pa_cons (pe_slice (k_sl_tupA (K := K) rfl) (pv 0) po_none (po_some pe_int)) (pa_cons (pe_tup (pa_cons pe_str (pa_cons (pv 2) pa_nil))) pa_nil)))))))), ?_⟩)
  obtain ⟨d, cl, fl, dl, al, c, s0, n, v, rfl, va, iv, hc, ok, hn, kk⟩ := h
  have lg := va.lg
  show tSeq (tAsg _ _) _ _ [some v, some (.ref d), none] H
  refine q_asgRun (call_run (ea_cons (ev_var rfl) ea_nil) fun H1 e1 => ⟨d, cl, fl, dl, al, c, s0, n, rfl, va.ex e1, hc, ok, hn, fun v2 H2 fl' hfl aft i2 em => ?_⟩)
  have hfl0 : fl' = fl ∨ H fl' = none := hfl.imp id (fun h => fresh_back e1 h)
  have em2 : ExM [d, cl, fl, dl, al] H H2 := (ExM.of e1).trans em
  have lgx : LastG (nxS (nextF 1000 s0)).last := by rw [nextF_last]; exact lg
  have nok := nextF_ok 1000 80000 s0 ok
  have iv2 : Im H2 v (eNx (nextF 1000 s0)) := iv.tx em2.2 (still_nx lgx)
  have fin : ∀ {H3 : Hp} {y : V}, Ex H2 H3 → y = .bl true → Q y H3 := fun e ey => by
    subst ey
    refine kk _ fl' hfl0 ?_ (em2.trans (ExM.of e))
    revert aft
    cases nextF 1000 s0 with
    | ended s => intro a; exact VA.ex a e
    | does o s => intro a; exact VA.ex a e
    | lost s => intro ⟨fs, a⟩; exact ⟨fs, VA.ex a e⟩
  have same : ∀ {te ue : TE} {σ : L2.St} {H1 : Hp} {x : PyData}, OkS 3 x → EvD te σ H1 x → EvD ue σ H1 x → EvD (tCall (sp_same 3) [] E0 (tCons te (tCons ue tNil))) σ H1 (.bool true) := fun ok h1 h2 => ed_callQ (ea1 h1 (ea1 h2 ea0)) ⟨_, rfl, ok, rfl⟩
  show tSeq (tIfS _ _ _) _ _ [some v, some (.ref d), some v2] H2
  generalize hnx : nextF 1000 s0 = nx at aft i2 lgx nok iv2
  cases nx with
  | ended s =>
    have i2' : Im H2 v2 .none := i2
    have w0 : ∀ {H3}, Ex H2 H3 → EvD (tVar 0) [some v, some (.ref d), some v2] H3 (.tuple [.str "ended", eSta s]) := fun e => ed_var rfl (iv2.mono e)
    have va2 : VA d cl fl' dl al s.cs s.last s.fs "ended" (n + 1) H2 := aft
    refine q_when (b := false) (et_is (et_or (et_not (et_DB (ed_isi (w0 (Ex.refl _)) kt_tuple_tuple))) (fun _ => et_D (ed_neI (ed_lenT (w0 (Ex.refl _))) (ed_if (b := true) (et_D (EvD.is (ed_isN (ed_var rfl i2')) rfl)) (fun _ => ed_i 2) (fun z => by cases z))))) (by simp)) (fun z => by cases z) ?_
    intro _ H3 e3
    refine q_when (b := true) (et_D (EvD.is (ed_isN (ed_var rfl (i2'.mono e3))) rfl)) ?_ (fun z => by cases z)
    intro _ H4 e4
    refine s_retD (same (.str 3 "ended" (by decide +kernel)) (ed_ixT (w0 (e3.trans e4)) (ed_i 0) rfl) ((va2.ex (e3.trans e4)).d_word rfl)) fun y H5 e5 iy => fin ((e3.trans e4).trans e5) iy.b
  | lost s =>
    have i2' : Im H2 v2 .none := i2
    have w0 : ∀ {H3}, Ex H2 H3 → EvD (tVar 0) [some v, some (.ref d), some v2] H3 (.tuple [.str "lost", eSta s]) := fun e => ed_var rfl (iv2.mono e)
    obtain ⟨fs, va2⟩ : ∃ fs, VA d cl fl' dl al s.cs s.last fs "lost" (n + 1) H2 := aft
    refine q_when (b := false) (et_is (et_or (et_not (et_DB (ed_isi (w0 (Ex.refl _)) kt_tuple_tuple))) (fun _ => et_D (ed_neI (ed_lenT (w0 (Ex.refl _))) (ed_if (b := true) (et_D (EvD.is (ed_isN (ed_var rfl i2')) rfl)) (fun _ => ed_i 2) (fun z => by cases z))))) (by simp)) (fun z => by cases z) ?_
    intro _ H3 e3
    refine q_when (b := true) (et_D (EvD.is (ed_isN (ed_var rfl (i2'.mono e3))) rfl)) ?_ (fun z => by cases z)
    intro _ H4 e4
    refine s_retD (same (.str 3 "lost" (by decide +kernel)) (ed_ixT (w0 (e3.trans e4)) (ed_i 0) rfl) ((va2.ex (e3.trans e4)).d_word rfl)) fun y H5 e5 iy => fin ((e3.trans e4).trans e5) iy.b
  | does o s =>
    have i2' : Im H2 v2 (eOpT o) := i2
    have w0 : ∀ {H3}, Ex H2 H3 → EvD (tVar 0) [some v, some (.ref d), some v2] H3 (.tuple [.str "do", eOpT o, eSta s]) := fun e => ed_var rfl (iv2.mono e)
    obtain ⟨l, hl⟩ : ∃ l, eOpT o = .tuple l := by cases o <;> exact ⟨_, rfl⟩
    have isn : ∀ {H3}, Ex H2 H3 → EvT (tTest (tOp (fun x y H Q => y = .non ∧ Q (.bl (decide (x = .non))) H) (tVar 2) (tC .non))) [some v, some (.ref d), some v2] H3 false := fun e => et_D (EvD.is (ed_isN (d := .tuple l) (ed_var rfl (hl ▸ i2'.mono e))) rfl)
    refine q_when (b := false) (et_is (et_or (et_not (et_DB (ed_isi (w0 (Ex.refl _)) kt_tuple_tuple))) (fun _ => et_D (ed_neI (ed_lenT (w0 (Ex.refl _))) (ed_if (b := false) (isn (Ex.refl _)) (fun z => by cases z) (fun _ => ed_i 3))))) (by simp)) (fun z => by cases z) ?_
    intro _ H3 e3
    refine q_when (isn e3) (fun z => by cases z) ?_
    intro _ H4 e4
    have e24 := e3.trans e4
    obtain ⟨_, o', ho, eo⟩ := nok
    have oks : OkS 3 (.tuple [.str "do", eOpT o]) := .tup 2 _ (by show 2 ≤ 1000; omega) fun x hx => by
      simp only [List.mem_cons, List.not_mem_nil, or_false] at hx
      rcases hx with rfl | rfl
      · exact .str 2 _ (by decide +kernel)
      · rw [eo]; exact okup (oks_op ho) (by omega)
    refine s_retD (same oks (EvD.is (ed_slA (w0 e24) eo_none (eo_i (ed_i 2))) rfl) (ed_tup (ea1 (ed_s _) (ea1 (ed_var rfl (i2'.mono e24)) ea0)) (by show 2 ≤ 100000; omega))) fun y H5 e5 iy => fin (e24.trans e5) iy.b
end
end K97
set_option Elab.async false
set_option linter.all false
set_option maxRecDepth 100000
set_option maxHeartbeats 4000000
namespace K97
open PySem PySem.Spec PyProof.Rows L2 Evl Pd
theorem mem_ansD : ∀ d ∈ ansList.map eAns, ∃ a, a ∈ ansList ∧ d = eAns a := fun d hd => by
  obtain ⟨a, ha, rfl⟩ := List.mem_map.mp hd
  exact ⟨a, ha, rfl⟩
section
variable {K : PySem.W.Frag} {σ : L2.St} {H : Hp}
theorem ev_answers : EvDs (tCons (tTup (tCons (tC (.str "ok")) tNil)) (tCons (tTup (tCons (tC (.str "none")) tNil)) (tCons (tTup (tCons (tC (.str "range")) tNil)) (tCons (tTup (tCons (tC (.str "full")) tNil)) (tCons (tTup (tCons (tC (.str "value")) (tCons (tC .non) tNil))) (tCons (tTup (tCons (tC (.str "value")) (tCons (tC (.int 3)) tNil))) (tCons (tTup (tCons (tC (.str "value")) (tCons (tOp (rI0 fun i j => .int (i - j)) e18 (tC (.int 1))) tNil))) (tCons (tTup (tCons (tC (.str "value")) (tCons (tOp (rI0 fun i j => .int (i - j)) (tC (.int 1)) e18) tNil))) (tCons (tTup (tCons (tC (.str "size")) (tCons (tC (.int 1)) tNil))) (tCons (tTup (tCons (tC (.str "size")) (tCons (tC (.int 2)) tNil))) (tCons (tTup (tCons (tC (.str "size")) (tCons (tOp (rI CPow fun i j => .int (i ^ j.toNat)) (tC (.int 10)) (tC (.int 9))) tNil))) (tCons (tTup (tCons (tC (.str "same")) (tCons (tC (.bl true)) tNil))) (tCons (tTup (tCons (tC (.str "same")) (tCons (tC (.bl false)) tNil))) (tCons (tTup (tCons (tC (.str "ok")) tNil)) (tCons (tTup (tCons (tC (.str "ok")) tNil)) tNil))))))))))))))) σ H (ansList.map eAns) := by
  have t1 : ∀ {te : TE} {d : PyData}, EvD te σ H d → EvD (tTup (tCons te tNil)) σ H (.tuple [d]) := fun h => ed_tup (ea1 h ea0) (by show 1 ≤ 100000; omega)
  have t2 : ∀ {te ue : TE} {d e : PyData}, EvD te σ H d → EvD ue σ H e → EvD (tTup (tCons te (tCons ue tNil))) σ H (.tuple [d, e]) := fun h k => ed_tup (ea1 h (ea1 k ea0)) (by show 2 ≤ 100000; omega)
  refine ea1 (t1 (ed_s _)) (ea1 (t1 (ed_s _)) (ea1 (t1 (ed_s _)) (ea1 (t1 (ed_s _)) (ea1 (t2 (ed_s _) ed_n) (ea1 (t2 (ed_s _) (ed_i 3)) (ea1 (t2 (ed_s _) ?_) (ea1 (t2 (ed_s _) ?_) (ea1 (t2 (ed_s _) (ed_i 1)) (ea1 (t2 (ed_s _) (ed_i 2)) (ea1 (t2 (ed_s _) ?_) (ea1 (t2 (ed_s _) (ed_b true)) (ea1 (t2 (ed_s _) (ed_b false)) (ea1 (t1 (ed_s _)) (ea1 (t1 (ed_s _)) ea0))))))))))))))
  · exact ed_I0 (g := fun i j => i - j) (ed_big 10 18 cp18) (ed_i 1)
  · exact ed_I0 (g := fun i j => i - j) (ed_i 1) (ed_big 10 18 cp18)
  · exact ed_big 10 9 ⟨by decide, by decide, by decide⟩
end
section
variable {P : Program} {w : World} {K : PySem.W.Frag} {mg : Str → Option Value} {base : Heap}
theorem cal__law_talk (S : Src K mg "_law_talk" st__law_talk ["tape", "teller", "turns"]) (T : Txt K mg) (C__law_pick : Cal P w K mg base CX0 2 "_law_pick" ["tape", "row"] sp_pick) (C_first_state : Cal P w K mg base CX0 1 "first_state" ["teller"] sp_first_state) (C_next_of : Cal P w K mg base CX0 5 "next_of" ["state"] sp_next_of) (C_told : Cal P w K mg base CX0 1 "told" ["state", "answer"] sp_told)
    (C__law_voice : Cal P w K mg base CX0 1 "_law_voice" ["teller"] sp_voice) (C__law_shows : Cal P w K mg base CX0 5 "_law_shows" ["state", "voice"] sp_shows) (C__law_is_due : Cal P w K mg base CX0 5 "_law_is_due" ["found", "voice"] sp_due) (C__law_hear : Cal P w K mg base CX0 1 "_law_hear" ["voice", "answer"] sp_hear) (C__law_same : Cal P w K mg base CX0 4 "_law_same" ["one", "other"] (sp_same 3)) : Cal P w K mg base CX0 6 "_law_talk" ["tape", "teller", "turns"] (SpG D_talk) := by
  have sc := sc__law_talk
  refine S.cal (k := 5) sc (SpG.len fun ds P h => by obtain ⟨_, _, _, rfl, _⟩ := h; rfl) (fun f cdv A outer s H vs Q E hr h => ⟨_, (pss_cons (ps_par3 (i := 3) (j := 4) (l := 5) rfl sc.nd rfl rfl rfl (by decide) (by decide) (by decide) rfl rfl rfl (pa_cons (pe_cal C_first_state (hr.mono (by first | decide | omega)) rfl pass0 (pa_cons (pv 1) pa_nil)) (pa_cons (pe_cal C__law_voice (hr.mono (by first | decide | omega)) rfl pass0 (pa_cons (pv 1) pa_nil)) (pa_cons (pe_lst pa_nil) pa_nil))) (by rfl))
  (pss_cons (ps_for PassesOwn.never rfl (pi_range1 (by rfl) T.n_range (pa_cons (pv 2) pa_nil)) (pg_name (i := 6) sc.nd rfl (by first | exact Or.inl rfl | exact Or.inr rfl)) (pss_cons (ps_if (pt_not (pt_val (pe_cal C__law_shows (hr.mono (by first | decide | omega)) rfl pass0 (pa_cons (pv 3) (pa_cons (pv 4) pa_nil))))) (pss_one (ps_ret pe_bl)) pss_nil)
  (pss_cons (ps_set (i := 7) sc.nd rfl (by first | exact Or.inl rfl | exact Or.inr rfl) (pe_cal C_next_of (hr.mono (by first | decide | omega)) rfl pass0 (pa_cons (pv 3) pa_nil)))
  (pss_cons (ps_expr (k_append (K := K) rfl (pv 5) (pa_cons (pe_tup (pa_cons (pv 3) (pa_cons (pv 7) pa_nil))) pa_nil)))
  (pss_cons (ps_if (pt_not (pt_val (pe_cal C__law_is_due (hr.mono (by first | decide | omega)) rfl pass0 (pa_cons (pv 7) (pa_cons (pv 4) pa_nil))))) (pss_one (ps_ret pe_bl)) pss_nil)
  (pss_cons (ps_if (pt_cmpR op_ne (pe_dget (hu_of hr) (pv 4) pe_str (fun _ _ => rfl)) pe_str (nomark _)) (pss_cons (ps_if (pt_not (pt_val (pe_cal C__law_same (hr.mono (by first | decide | omega)) rfl pass0 (pa_cons (pe_ix (k_ix_tup (K := K) rfl) (pe_ix (k_ix_tup (K := K) rfl) (pv 7) pe_int (fun _ _ => rfl)) pe_int (fun _ _ => rfl)) (pa_cons (pe_callTy (k_tuple_of (K := K) rfl) (by rfl) T.n_tuple (by decide +kernel) (pa_cons (pe_dget (hu_of hr) (pv 4) pe_str (fun _ _ => rfl)) pa_nil)) pa_nil))))) (pss_one (ps_ret pe_bl)) pss_nil)
  (pss_one ps_break)) pss_nil)
  (pss_cons (ps_set (i := 8) sc.nd rfl (by first | exact Or.inl rfl | exact Or.inr rfl) (pe_cal C__law_pick (hr.mono (by first | decide | omega)) rfl pass0 (pa_cons (pv 0) (pa_cons (pe_lst (pa_cons (pe_tup (pa_cons pe_str pa_nil)) (pa_cons (pe_tup (pa_cons pe_str pa_nil)) (pa_cons (pe_tup (pa_cons pe_str pa_nil)) (pa_cons (pe_tup (pa_cons pe_str pa_nil)) (pa_cons (pe_tup (pa_cons pe_str (pa_cons pe_non pa_nil))) (pa_cons (pe_tup (pa_cons pe_str (pa_cons pe_int pa_nil))) (pa_cons (pe_tup (pa_cons pe_str (pa_cons (pe_op op_sub (pe_op op_pow pe_int pe_int) pe_int) pa_nil))) (pa_cons (pe_tup (pa_cons pe_str (pa_cons (pe_op op_sub pe_int (pe_op op_pow pe_int pe_int)) pa_nil))) (pa_cons (pe_tup (pa_cons pe_str (pa_cons pe_int pa_nil))) (pa_cons (pe_tup (pa_cons pe_str (pa_cons pe_int pa_nil))) (pa_cons (pe_tup (pa_cons pe_str (pa_cons (pe_op op_pow pe_int pe_int) pa_nil))) (pa_cons (pe_tup (pa_cons pe_str (pa_cons pe_bl pa_nil))) (pa_cons (pe_tup (pa_cons pe_str (pa_cons pe_bl pa_nil))) (pa_cons (pe_tup (pa_cons pe_str pa_nil)) (pa_cons (pe_tup (pa_cons pe_str pa_nil)) pa_nil)))))))))))))))) pa_nil))))
  (pss_cons (ps_expr (pe_cal C__law_hear (hr.mono (by first | decide | omega)) rfl pass0 (pa_cons (pv 4) (pa_cons (pv 8) pa_nil))))
  (pss_one (ps_set (i := 3) sc.nd rfl (by first | exact Or.inl rfl | exact Or.inr rfl) (pe_cal C_told (hr.mono (by first | decide | omega)) rfl pass0 (pa_cons (pe_ix (k_ix_tup (K := K) rfl) (pv 7) pe_int (fun _ _ => rfl)) (pa_cons (pv 8) pa_nil)))))))))))))
  (pss_cons (ps_for PassesOwn.never rfl (k_pi_list (K := K) rfl (pe_ifExp (pt_cmpR op_gt (pv 2) pe_int (nomark _)) (pe_slice (k_sl_list (K := K) rfl) (pv 5) (po_some (pe_un un_neg pe_int)) po_none) (pe_lst pa_nil))) (k_pg_tup (K := K) (n := 2) rfl rfl (pgs_cons (pg_name (i := 3) sc.nd rfl (by first | exact Or.inl rfl | exact Or.inr rfl)) (pgs_cons (pg_name (i := 7) sc.nd rfl (by first | exact Or.inl rfl | exact Or.inr rfl)) pgs_nil))) (pss_cons (ps_set (i := 9) sc.nd rfl (by first | exact Or.inl rfl | exact Or.inr rfl) (pe_cal C_next_of (hr.mono (by first | decide | omega)) rfl pass0 (pa_cons (pv 3) pa_nil)))
  (pss_one (ps_if (PW.pt (pw_or (pt_not (pt_val (pe_cal C__law_same (hr.mono (by first | decide | omega)) rfl pass0 (pa_cons (pe_slice (k_sl_tupA (K := K) rfl) (pv 9) po_none (po_some (pe_op op_sub (pe_callB (k_len_seq (K := K) rfl) (by rfl) T.n_len PySem.boot_len (pa_cons (pv 9) pa_nil)) pe_int))) (pa_cons (pe_slice (k_sl_tupA (K := K) rfl) (pv 7) po_none (po_some (pe_op op_sub (pe_callB (k_len_seq (K := K) rfl) (by rfl) T.n_len PySem.boot_len (pa_cons (pv 7) pa_nil)) pe_int))) pa_nil))))) (pw_or1 (pt_not (pt_val (pe_cal C__law_same (hr.mono (by first | decide | omega)) rfl pass0 (pa_cons (pe_slice (k_sl_tupA (K := K) rfl) (pe_ix (k_ix_tup (K := K) rfl) (pv 9) (pe_un un_neg pe_int) (fun _ _ => rfl)) po_none (po_some pe_int)) (pa_cons (pe_slice (k_sl_tupA (K := K) rfl) (pe_ix (k_ix_tup (K := K) rfl) (pv 7) (pe_un un_neg pe_int) (fun _ _ => rfl)) po_none (po_some pe_int)) pa_nil)))))))) (pss_one (ps_ret pe_bl)) pss_nil))))
  (pss_one (ps_ret pe_bl))))), ?_⟩)
  obtain ⟨t, c, ws, ds, PP, rfl, T0, sst, ims, ⟨cnt, bl, nt, rfl, tel, hnt, hP⟩, kk⟩ := h
  obtain ⟨v, v2, rfl, iv, i2⟩ := ims.two
  cases i2.i
  have same : ∀ {te ue : TE} {σ : L2.St} {H1 : Hp} {x : PyData}, OkS 3 x → EvD te σ H1 x → EvD ue σ H1 x → EvD (tCall (sp_same 3) [] E0 (tCons te (tCons ue tNil))) σ H1 (.bool true) := fun ok h1 h2 => ed_callQ (ea1 h1 (ea1 h2 ea0)) ⟨_, rfl, ok, rfl⟩
  show tSeq (tPar3 _ _ _ _) _ _ [some (.ref t), some v, some (.int (nt : Nat)), none, none, none, none, none, none, none] H
  refine q_par3 (consA ((ed_callQ (d := eSta ⟨List.replicate cnt 0, none, [(bl, 0)]⟩) (R := fun ds d => ∃ (c : Nat) (b : List Stm), ds = [.tuple [.int (c : Nat), eBlk b]] ∧ c ≤ 1000 ∧ d = eSta ⟨List.replicate c 0, none, [(b, 0)]⟩) (ea1 (ed_var rfl iv) ea0) ⟨cnt, bl, rfl, tel.small, rfl⟩) H (Ex.refl H) _ fun sv H1 e1 isv => consA (call_run (ea_cons (ev_var rfl) ea_nil) fun H2 e2 => ⟨v, cnt, bl, rfl, iv.mono (e1.trans e2), tel.small, fun d cl fl dl al H3 va3 fresh3 e3 => consA (en_lst (ds := []) ea0 (by show 0 ≤ 100000; omega) H3 (Ex.refl H3) _ fun x xs0 H4 n4 e4 a4 b4 => nilA ⟨_, _, _, rfl, ?_⟩)⟩)))
  cases b4
  have e02 := e1.trans e2
  have e03 := e02.trans e3
  have e04 := e03.trans e4
  have hx0 : H x = none := fresh_back e03 n4
  have fr0 : ∀ a ∈ [d, cl, fl, dl, al], H a = none := fun a ha => fresh_back e02 (fresh3 a ha)
  have xnin : x ∉ [d, cl, fl, dl, al] := fun z => by
    simp only [List.mem_cons, List.not_mem_nil, or_false] at z
    rcases z with rfl | rfl | rfl | rfl | rfl
    · obtain ⟨_, h, _⟩ := va3.hd; rw [h] at n4; cases n4
    · rw [va3.hc] at n4; cases n4
    · obtain ⟨_, h, _⟩ := va3.hf; rw [h] at n4; cases n4
    · obtain ⟨_, h, _⟩ := va3.hdn; rw [h] at n4; cases n4
    · obtain ⟨_, h, _⟩ := va3.han; rw [h] at n4; cases n4
  show tSeq (tFor _ _ _) (tSeq (tFor _ _ _) _) _ [some (.ref t), some v, some (.int (nt : Nat)), some sv, some (.ref d), some (.ref x), none, none, none, none] H4
  -- behind the loop
  have tail : ∀ {tzz : TS} {σ' : L2.St} {H' : Hp}, tzz = tSeq (tFor (iList K (tIf (tTest (tOp (rI0 fun i j => .bl (decide (j < i))) (tVar 2) (tC (.int 2)))) (tSl (rSlL K) (tVar 5) (tPart (tUn (rU fun i => V.int (-i)) (tC (.int 2)))) tNoPart) (tLst tNil))) (gTup K 2 (gCons (gName 3) (gCons (gName 7) gNil)))
        (tSeq (tAsg (tCall sp_next_of [] E0 (tCons (tVar 3) tNil)) (gName 9)) (tIfS (tOr (tNot (tB (tCall (sp_same 3) [] E0 (tCons (tSl (rSlA K) (tVar 9) tNoPart (tPart (tOp (rI0 fun i j => .int (i - j)) (tCB (rLenS K) (tCons (tVar 9) tNil)) (tC (.int 1))))) (tCons (tSl (rSlA K) (tVar 7) tNoPart (tPart (tOp (rI0 fun i j => .int (i - j)) (tCB (rLenS K) (tCons (tVar 7) tNil)) (tC (.int 1))))) tNil)))))
          (tNot (tB (tCall (sp_same 3) [] E0 (tCons (tSl (rSlA K) (tOp (rIxT K) (tVar 9) (tUn (rU fun i => V.int (-i)) (tC (.int 1)))) tNoPart (tPart (tC (.int 2)))) (tCons (tSl (rSlA K) (tOp (rIxT K) (tVar 7) (tUn (rU fun i => V.int (-i)) (tC (.int 1)))) tNoPart (tPart (tC (.int 2)))) tNil)))))) (tRet (tC (.bl false))) tNext))) (tRet (tC (.bl true))) →
      (∃ (s3 : V) (o6 o7 o8 o9 : Option V), σ' = [some (.ref t), some v, some (.int (nt : Nat)), some s3, some (.ref d), some (.ref x), o6, o7, o8, o9]) → Go t c H H' → (∃ (xs : List V) (items : List Sta), H' x = some (.lst xs) ∧ Ims H' xs (items.map eSeen) ∧ ∀ s ∈ items, SeenOk cnt s) → tzz { nx := fun _ H' => Q .non H', rt := Q } σ' H' := by
    rintro _ _ H' rfl ⟨s3, o6, o7, o8, o9, rfl⟩ g ⟨xs, items, hx, ims, oks⟩
    have stI : ∀ y ∈ items.map eSeen, still y = true := fun y hy => by
      obtain ⟨s, hs, rfl⟩ := List.mem_map.mp hy
      exact still_seen (oks s hs)
    have src : EvN (tIf (tTest (tOp (rI0 fun i j => .bl (decide (j < i))) (tVar 2) (tC (.int 2)))) (tSl (rSlL K) (tVar 5) (tPart (tUn (rU fun i => V.int (-i)) (tC (.int 2)))) tNoPart) (tLst tNil)) [some (.ref t), some v, some (.int (nt : Nat)), some s3, some (.ref d), some (.ref x), o6, o7, o8, o9] H' (if decide ((2 : Int) < (nt : Int)) = true then cutD (items.map eSeen) (some (-2)) none else []) := by
      refine en_if (b := decide ((2 : Int) < (nt : Int))) (et_D (ed_B0 (g := fun i j => decide (j < i)) (ed_var rfl (.int _)) (ed_i 2))) (fun h => ?_) (fun h => ?_)
      · rw [if_pos h]
        exact en_slL (ed_var rfl (.lst hx ims)) (eo_i (fun H1 e Q q => ⟨2, rfl, q _ H1 (Ex.refl H1) (.int (-2))⟩)) eo_none
      · rw [h, if_neg (by decide)]
        exact en_lst ea0 (by show 0 ≤ 100000; omega)
    have inS : ∀ y ∈ (if decide ((2 : Int) < (nt : Int)) = true then cutD (items.map eSeen) (some (-2)) none else []), y ∈ items.map eSeen := fun y hy => by
      by_cases h : decide ((2 : Int) < (nt : Int)) = true
      · rw [if_pos h] at hy; exact cut_mem hy
      · rw [if_neg h] at hy; cases hy
    refine q_forM [] (wm_new src (fun a ha => by cases ha) (stills_ofm fun y hy => stI y (inS y hy))) (fun i σ' H1 => (∃ (s3 : V) (o6 o7 o8 o9 : Option V), σ' = [some (.ref t), some v, some (.int (nt : Nat)), some s3, some (.ref d), some (.ref x), o6, o7, o8, o9]) ∧ Ex H' H1) (fun H1 e => ⟨⟨_, _, _, _, _, rfl⟩, e⟩) (fun i σ' H1 H2 q e => ⟨q.1, q.2.trans e⟩) ?_ ?_
    · rintro i y x0 σ' H5 H6 hd' e56 ix0 ⟨⟨s3, o6, o7, o8, o9, rfl⟩, e5⟩
      obtain ⟨s, hs, rfl⟩ := List.mem_map.mp (inS _ (List.mem_of_getElem? hd'))
      have so := oks s hs
      refine g_pair ix0 fun a b ia ib => ?_
      show tSeq (tAsg _ _) _ _ [some (.ref t), some v, some (.int (nt : Nat)), some a, some (.ref d), some (.ref x), o6, some b, o8, o9] H6
      refine q_asgD (ed_callQ (d := eNx (nextF 1000 s)) (R := fun ds d => ∃ (c : Nat) (s : Sta), ds = [eSta s] ∧ c ≤ 1000 ∧ StaOk c 80000 s ∧ d = eNx (nextF 1000 s)) (ea1 (ed_var rfl ia) ea0) ⟨cnt, s, rfl, tel.small, so.sta, rfl⟩) fun y9 H7 e7 i9 => ?_
      have ib7 := ib.mono e7
      have lgx : LastG (nxS (nextF 1000 s)).last := by rw [nextF_last]; exact so.lg
      have nok := nextF_ok 1000 80000 s so.sta
      show tIfS _ _ _ _ [some (.ref t), some v, some (.int (nt : Nat)), some a, some (.ref d), some (.ref x), o6, some b, o8, some y9] H7
      generalize nextF 1000 s = nx at i9 ib7 lgx nok
      -- the parts of the answer
      obtain ⟨pre, s', en, okp, hlen⟩ : ∃ (pre : List PyData) (s' : Sta), eNx nx = .tuple (pre ++ [eSta s']) ∧ OkS 3 (.tuple pre) ∧ s'.cs.length ≤ 1000 ∧ LastG s'.last := by
        cases nx with
        | ended s' => exact ⟨[.str "ended"], s', rfl, .tup 2 _ (by show 1 ≤ 1000; omega) (fun x hx => by cases List.mem_singleton.mp hx; exact .str 2 _ (by decide +kernel)), by rw [(show StaOk cnt _ s' from nok).len]; exact tel.small, lgx⟩
        | lost s' => exact ⟨[.str "lost"], s', rfl, .tup 2 _ (by show 1 ≤ 1000; omega) (fun x hx => by cases List.mem_singleton.mp hx; exact .str 2 _ (by decide +kernel)), by rw [(show s'.cs.length = cnt ∧ _ from nok).1]; exact tel.small, lgx⟩
        | does o s' =>
          obtain ⟨n1, o', ho, eo⟩ := nok
          refine ⟨[.str "do", eOpT o], s', rfl, .tup 2 _ (by show 2 ≤ 1000; omega) (fun x hx => ?_), by rw [n1.len]; exact tel.small, lgx⟩
          simp only [List.mem_cons, List.not_mem_nil, or_false] at hx
          rcases hx with rfl | rfl
          · exact .str 2 _ (by decide +kernel)
          · rw [eo]; exact okup (oks_op ho) (by omega)
      rw [en] at i9 ib7
      have w9 : ∀ {H8}, Ex H7 H8 → EvD (tVar 9) [some (.ref t), some v, some (.int (nt : Nat)), some a, some (.ref d), some (.ref x), o6, some b, o8, some y9] H8 (.tuple (pre ++ [eSta s'])) := fun e => ed_var rfl (i9.mono e)
      have w7 : ∀ {H8}, Ex H7 H8 → EvD (tVar 7) [some (.ref t), some v, some (.int (nt : Nat)), some a, some (.ref d), some (.ref x), o6, some b, o8, some y9] H8 (.tuple (pre ++ [eSta s'])) := fun e => ed_var rfl (ib7.mono e)
      have cutE : ∀ {te : TE} {σ : L2.St} {H8 : Hp}, EvD te σ H8 (.tuple (pre ++ [eSta s'])) → EvD (tSl (rSlA K) te tNoPart (tPart (tOp (rI0 fun i j => .int (i - j)) (tCB (rLenS K) (tCons te tNil)) (tC (.int 1))))) σ H8 (.tuple pre) := fun h => by
        refine EvD.is (ed_slA h eo_none (eo_i (ed_I0 (g := fun i j => i - j) (ed_lenT h) (ed_i 1)))) ?_
        rw [show (((pre ++ [eSta s']).length : Int) - 1) = ((pre.length : Nat) : Int) by rw [List.length_append]; simp, cutD_to, List.take_left' rfl]
      have lastE : ∀ {te : TE} {σ : L2.St} {H8 : Hp}, EvD te σ H8 (.tuple (pre ++ [eSta s'])) → EvD (tSl (rSlA K) (tOp (rIxT K) te (tUn (rU fun i => V.int (-i)) (tC (.int 1)))) tNoPart (tPart (tC (.int 2)))) σ H8 (.tuple [eI s'.cs, eLast s'.last]) := fun h => by
        have := ed_ixT (K := K) (d := eSta s') h ed_m1 (atI_last _ _)
        exact EvD.is (ed_slA (ds := [eI s'.cs, eLast s'.last, .tuple (s'.fs.map eFrm)]) this eo_none (eo_i (ed_i 2))) rfl
      have okl : OkS 3 (.tuple [eI s'.cs, eLast s'.last]) := .tup 2 _ (by show 2 ≤ 1000; omega) fun x hx => by
        simp only [List.mem_cons, List.not_mem_nil, or_false] at hx
        rcases hx with rfl | rfl
        · exact okup (oks_ints hlen.1) (by omega)
        · exact okup hlen.2.oks (by omega)
      refine s_when (b := false) (et_is (et_or (et_not (et_DB (same okp (cutE (w9 (Ex.refl _))) (cutE (w7 (Ex.refl _)))))) (fun _ => et_not (et_DB (same okl (lastE (w9 (Ex.refl _))) (lastE (w7 (Ex.refl _))))))) rfl) (fun z => by cases z) ?_
      intro _ H8 e8
      exact ⟨⟨⟨_, _, _, _, _, rfl⟩, ((e5.trans e7).trans e8)⟩, ExM.of ((e56.trans e7).trans e8)⟩
    · rintro σ' H5 ⟨⟨s3, o6, o7, o8, o9, rfl⟩, e5⟩
      refine s_retD (ed_b true) fun y H6 e6 iy => kk y _ H6 (g.ex (e5.trans e6)) rfl hP iy
  refine q_forR1 (n := (nt : Int)) (ea_cons (ev_var rfl) ea_nil) ⟨by omega, by omega⟩
    (fun k σ' H' => ∃ (s : Sta) (sv : V) (fl' : Addr) (xs : List V) (items : List Sta) (o6 o7 o8 o9 : Option V), σ' = [some (.ref t), some v, some (.int (nt : Nat)), some sv, some (.ref d), some (.ref x), o6, o7, o8, o9] ∧ Go t c H H' ∧ Im H' sv (eSta s) ∧ VA d cl fl' dl al s.cs s.last s.fs "open" (2 * k) H' ∧ StaOk cnt (1 + 1001 * k) s ∧
      H' x = some (.lst xs) ∧ Ims H' xs (items.map eSeen) ∧ (∀ s ∈ items, SeenOk cnt s) ∧ items.length ≤ k ∧ (∀ a ∈ [d, cl, fl', dl, al], H a = none) ∧ x ∉ [d, cl, fl', dl, al]) ?_ ?_ ?_
  · intro H5 e5
    refine ⟨⟨List.replicate cnt 0, none, [(bl, 0)]⟩, sv, fl, [], [], _, _, _, _, rfl, Go.of T0 (e04.trans e5), isv.mono (((e2.trans e3).trans e4).trans e5), va3.ex (e4.trans e5), ⟨by simp, (show LastG none from trivial).ok, fun f hf => ?_, by show 1 ≤ 1 + 1001 * 0; omega⟩, e5 _ _ a4, .nil, fun s hs => absurd hs List.not_mem_nil, Nat.le_refl _, fr0, xnin⟩
    cases List.mem_singleton.mp hf
    exact ⟨tel.ok, Nat.zero_le _, tel.fit⟩
  · rintro k σ' H5 hk ⟨s, sv, fl', xs, items, o6, o7, o8, o9, rfl, g5, is5, va5, so, hx5, ims5, oks, hil, fr5, xn5⟩
    have hk12 : k < 12 := by omega
    have xln : xs.length ≤ 12 := by rw [ims5.length, List.length_map]; omega
    have csl : s.cs.length ≤ 1000 := by rw [so.len]; exact tel.small
    have lg := va5.lg
    have so8 : StaOk cnt 80000 s := ⟨so.len, so.last, so.fs, by have := so.many; omega⟩
    have sko : SeenOk cnt s := ⟨so8, lg⟩
    show tSeq (tIfS _ _ _) _ _ [some (.ref t), some v, some (.int (nt : Nat)), some sv, some (.ref d), some (.ref x), some (.int (k : Nat)), o7, o8, o9] H5
    refine q_notR (call_run (vs := [sv, .ref d]) (ea_cons (ev_var rfl) (ea_cons (ev_var rfl) ea_nil)) fun H6 e6 => ⟨d, cl, fl', dl, al, s, s.fs, "open", 2 * k, sv, rfl, va5.ex e6, is5.mono e6, csl, fun H7 e7 => ⟨true, rfl, ?_⟩⟩)
    rw [if_neg (by decide)]
    have e57 := e6.trans e7
    show tSeq (tAsg _ _) _ _ [some (.ref t), some v, some (.int (nt : Nat)), some sv, some (.ref d), some (.ref x), some (.int (k : Nat)), o7, o8, o9] H7
    refine q_asgD (ed_callQ (d := eNx (nextF 1000 s)) (R := fun ds d => ∃ (c : Nat) (s : Sta), ds = [eSta s] ∧ c ≤ 1000 ∧ StaOk c 80000 s ∧ d = eNx (nextF 1000 s)) (ea1 (ed_var rfl (is5.mono e57)) ea0) ⟨cnt, s, rfl, tel.small, so8, rfl⟩) fun fv H8 e8 ifv => ?_
    have e58 := e57.trans e8
    show tSeq (tDrop _) _ _ [some (.ref t), some v, some (.int (nt : Nat)), some sv, some (.ref d), some (.ref x), some (.int (k : Nat)), some fv, o8, o9] H8
    have lgx : LastG (nxS (nextF 1000 s)).last := by rw [nextF_last]; exact lg
    have stx : still (eNx (nextF 1000 s)) = true := still_nx lgx
    refine q_appA (d := eSeen s) (e58 _ _ hx5) (ev_var rfl) (ed_tup (ea1 (ed_var rfl (is5.mono e58)) (ea1 (ed_var rfl ifv) ea0)) (by show 2 ≤ 100000; omega)) (by omega) fun y9 H9 e9 hx9 i9 => ?_
    have e59 := e58.trans e9
    obtain ⟨HA, hHA⟩ : ∃ HA, HA = upd H9 x (.lst (xs ++ [y9])) := ⟨_, rfl⟩
    have tx := tx_lst (ys := xs ++ [y9]) hx9
    have emx : ExM [x] H9 (upd H9 x (.lst (xs ++ [y9]))) := ExM.upd hx9 (by simp)
    have vaA0 := (va5.ex e59).keep emx (fun a ha z => by cases List.mem_singleton.mp z; exact xn5 ha)
    have imsA : Ims (upd H9 x (.lst (xs ++ [y9]))) (xs ++ [y9]) ((items ++ [s]).map eSeen) := by
      rw [List.map_append]
      exact Ims.append ((ims5.mono e59).tx tx (stills_ofm fun y hy => by obtain ⟨s, hs, rfl⟩ := List.mem_map.mp hy; exact still_seen (oks s hs))) (.cons (i9.tx tx (still_seen sko)) .nil)
    have hxA : (upd H9 x (.lst (xs ++ [y9]))) x = some (.lst (xs ++ [y9])) := upd_same
    have ifA : Im (upd H9 x (.lst (xs ++ [y9]))) fv (eNx (nextF 1000 s)) := (ifv.mono e9).tx tx stx
    have gA : Go t c H (upd H9 x (.lst (xs ++ [y9]))) := (g5.ex e59).m T0 emx (fun a ha => by cases List.mem_singleton.mp ha; exact hx0)
    rw [← hHA] at vaA0 imsA hxA ifA gA ⊢
    have oksA : ∀ s' ∈ items ++ [s], SeenOk cnt s' := fun s' hs' => by
      rcases List.mem_append.mp hs' with h | h
      · exact oks s' h
      · cases List.mem_singleton.mp h; exact sko
    show tSeq (tIfS _ _ _) _ _ [some (.ref t), some v, some (.int (nt : Nat)), some sv, some (.ref d), some (.ref x), some (.int (k : Nat)), some fv, o8, o9] HA
    refine q_notR (call_run (vs := [fv, .ref d]) (ea_cons (ev_var rfl) (ea_cons (ev_var rfl) ea_nil)) fun HB eB => ⟨d, cl, fl', dl, al, cnt, s, 2 * k, fv, rfl, vaA0.ex eB, ifA.mono eB, tel.small, so8, by omega, fun HC fl2 hfl2 aft emC => ⟨true, rfl, ?_⟩⟩)
    rw [if_neg (by decide)]
    have gB := gA.ex eB
    have gC : Go t c H HC := gB.m T0 emC fr5
    have xC : HC x = some (.lst (xs ++ [y9])) := emC.1 _ _ xn5 (eB _ _ hxA)
    have stI : stills ((items ++ [s]).map eSeen) = true := stills_ofm fun y hy => by obtain ⟨s, hs, rfl⟩ := List.mem_map.mp hy; exact still_seen (oksA s hs)
    have imsC : Ims HC (xs ++ [y9]) ((items ++ [s]).map eSeen) := (imsA.mono eB).tx emC.2 stI
    have ifC : Im HC fv (eNx (nextF 1000 s)) := (ifA.mono eB).tx emC.2 stx
    have fr2 : ∀ a ∈ [d, cl, fl2, dl, al], H a = none := fun a ha => by
      rcases mem5 hfl2 a ha with h | h
      · exact fr5 a h
      · cases c0 : H a with
        | none => rfl
        | some o =>
          exfalso
          by_cases hm : a ∈ [t, c]
          · rcases List.mem_cons.mp hm with rfl | hm
            · exact gB.2.some_t h
            · rcases List.mem_cons.mp hm with rfl | hm
              · exact gB.2.some_c h
              · cases hm
          · rw [gB.at hm c0] at h; cases h
    have xn2 : x ∉ [d, cl, fl2, dl, al] := fun z => by
      rcases mem5 hfl2 x z with h | h
      · exact xn5 h
      · rw [eB _ _ hxA] at h; cases h
    have nok := nextF_ok 1000 _ s so
    show tSeq (tIfS _ _ _) _ _ [some (.ref t), some v, some (.int (nt : Nat)), some sv, some (.ref d), some (.ref x), some (.int (k : Nat)), some fv, o8, o9] HC
    generalize hnx : nextF 1000 s = nx at aft ifC lgx nok
    cases nx with
    | does o s' =>
      have vaC : VA d cl fl2 dl al s'.cs s'.last s'.fs "open" (2 * k + 1) HC := aft
      refine q_when (b := false) (et_is (et_D (ed_neS (vaC.d_word rfl) (ed_s "open"))) (by simp)) (fun z => by cases z) ?_
      intro _ HD eD
      have gD := gC.ex eD
      refine q_asgG (t := t) (c := c) gD.2 (eg_pick (P := fun d => ∃ a, a ∈ ansList ∧ d = eAns a) (it := 0) rfl (fun H1 g Q q => ev_answers H1 (Ex.refl H1) Q fun vs H2 e iv => q vs _ H2 (Go.of g.2 e) (stills_ofm fun y hy => by obtain ⟨a, ha, rfl⟩ := mem_ansD y hy; exact (show LastG (some a) from ha).still) ⟨by simp [ansList], by simp [ansList], mem_ansD⟩ iv)) ?_
      rintro av ad HE gE sE ⟨a, ha, rfl⟩ iav
      have vaD := vaC.ex eD
      have tcn : ∀ y ∈ [d, cl, fl2, dl, al], y ∉ [t, c] := fun y hy z => by
        have h0 := fr2 y hy
        rcases List.mem_cons.mp z with rfl | z
        · exact T0.some_t h0
        · rcases List.mem_cons.mp z with rfl | z
          · exact T0.some_c h0
          · cases z
      have xtc : x ∉ [t, c] := T0.notin hx0
      have vaE := vaD.keep gE.1 tcn
      have gHE := gD.trans gE
      have xE : HE x = some (.lst (xs ++ [y9])) := gE.at xtc (eD _ _ xC)
      have imsE : Ims HE (xs ++ [y9]) ((items ++ [s]).map eSeen) := (imsC.mono eD).tx gE.1.2 stI
      have stD : still (eNx (.does o s')) = true := still_nx lgx
      have ifE : Im HE fv (eNx (.does o s')) := (ifC.mono eD).tx gE.1.2 stD
      show tSeq (tDrop _) _ _ [some (.ref t), some v, some (.int (nt : Nat)), some sv, some (.ref d), some (.ref x), some (.int (k : Nat)), some fv, some av, o9] HE
      refine q_dropA (call_run (vs := [.ref d, av]) (ea_cons (ev_var rfl) (ea_cons (ev_var rfl) ea_nil)) fun HF eF => ⟨d, cl, fl2, dl, al, s'.cs, s'.last, s'.fs, "open", 2 * k + 1, av, a, rfl, vaE.ex eF, by omega, iav.mono eF, ha, fun HG vaG emG => ?_⟩)
      have gHF := gHE.ex eF
      have gHG : Go t c H HG := gHF.m T0 emG fr2
      have xG : HG x = some (.lst (xs ++ [y9])) := emG.1 _ _ xn2 (eF _ _ xE)
      have imsG : Ims HG (xs ++ [y9]) ((items ++ [s]).map eSeen) := (imsE.mono eF).tx emG.2 stI
      have ifG : Im HG fv (.tuple [.str "do", eOpT o, eSta s']) := (ifE.mono eF).tx emG.2 stD
      have iaG : Im HG av (eAns a) := (iav.mono eF).tx emG.2 sE
      refine s_asgD (ed_callQ (d := eSta ⟨s'.cs, some a, s'.fs⟩) (R := fun ds d => ∃ (s : Sta) (a : Ans), ds = [eSta s, eAns a] ∧ d = eSta ⟨s.cs, some a, s.fs⟩) (ea1 (ed_ixT (ed_var rfl ifG) (ed_i 2) rfl) (ea1 (ed_var rfl iaG) ea0)) ⟨s', a, rfl, rfl⟩) fun nv HI eI2 inv => ?_
      obtain ⟨nk, _⟩ := nok
      refine ⟨⟨s'.cs, some a, s'.fs⟩, nv, fl2, xs ++ [y9], items ++ [s], _, _, _, _, rfl, gHG.ex eI2, inv, ?_, ⟨nk.len, (show LastG (some a) from ha).ok, nk.fs, by have := nk.many; show s'.fs.length ≤ _; omega⟩, eI2 _ _ xG, imsG.mono eI2, oksA, by rw [List.length_append]; show _ + 1 ≤ _; omega, fr2, xn2⟩
      have := vaG.ex eI2
      rw [show 2 * (k + 1) = 2 * k + 1 + 1 by omega]
      exact this
    | ended s' =>
      have vaC : VA d cl fl2 dl al s'.cs s'.last s'.fs "ended" (2 * k + 1) HC := aft
      refine q_when (b := true) (et_is (et_D (ed_neS (vaC.d_word rfl) (ed_s "open"))) (by decide +kernel)) ?_ (fun z => by cases z)
      intro _ HD eD
      have ifD : Im HD fv (.tuple [.str "ended", eSta s']) := ifC.mono eD
      refine q_when (b := false) (et_is (et_not (et_DB (same (okup (oks_ints (by rw [(show StaOk cnt _ s' from nok).len]; exact tel.small)) (by omega)) (ed_ixT (ds := [eI s'.cs, eLast s'.last, .tuple (s'.fs.map eFrm)]) (ed_ixT (ed_var rfl ifD) (ed_i 1) rfl) (ed_i 0) rfl) (ed_tupOf ((vaC.ex eD).d_counters rfl))))) rfl) (fun z => by cases z) ?_
      intro _ HE eE
      exact tail rfl ⟨_, _, _, _, _, rfl⟩ (gC.ex (eD.trans eE)) ⟨_, _, (eD.trans eE) _ _ xC, imsC.mono (eD.trans eE), oksA⟩
    | lost s' =>
      obtain ⟨fs', vaC⟩ : ∃ fs', VA d cl fl2 dl al s'.cs s'.last fs' "lost" (2 * k + 1) HC := aft
      refine q_when (b := true) (et_is (et_D (ed_neS (vaC.d_word rfl) (ed_s "open"))) (by decide +kernel)) ?_ (fun z => by cases z)
      intro _ HD eD
      have ifD : Im HD fv (.tuple [.str "lost", eSta s']) := ifC.mono eD
      refine q_when (b := false) (et_is (et_not (et_DB (same (okup (oks_ints (by rw [(show s'.cs.length = cnt ∧ _ from nok).1]; exact tel.small)) (by omega)) (ed_ixT (ds := [eI s'.cs, eLast s'.last, .tuple (s'.fs.map eFrm)]) (ed_ixT (ed_var rfl ifD) (ed_i 1) rfl) (ed_i 0) rfl) (ed_tupOf ((vaC.ex eD).d_counters rfl))))) rfl) (fun z => by cases z) ?_
      intro _ HE eE
      exact tail rfl ⟨_, _, _, _, _, rfl⟩ (gC.ex (eD.trans eE)) ⟨_, _, (eD.trans eE) _ _ xC, imsC.mono (eD.trans eE), oksA⟩
  · rintro σ' H5 ⟨s, sv, fl', xs, items, o6, o7, o8, o9, rfl, g5, is5, va5, so, hx5, ims5, oks, hil, fr5, xn5⟩
    exact tail rfl ⟨_, _, _, _, _, rfl⟩ g5 ⟨xs, items, hx5, ims5, oks⟩
end
end K97
set_option Elab.async false
set_option linter.all false
set_option maxRecDepth 100000
set_option maxHeartbeats 4000000
namespace K97
open PySem PySem.Spec PyProof.Rows L2 Evl Pd
def sp_law (K : PySem.W.Frag) : Sp := fun vs H Q _ => ∃ (a : Addr) (ns : List Int), vs = [.ref a] ∧ SqL K H a (ns.map V.int) ∧ ns.length ≤ 63 ∧ ∀ H', Q (.bl true) H'
section
variable {P : Program} {w : World} {K : PySem.W.Frag} {mg : Str → Option Value} {base : Heap}
theorem ok_law {fL : Addr} {fdL : FuncData} (FL : Fun K "law" "law" st_law fL fdL) (T : Txt K mg)
    (C__law_tape : Cal P w K mg base CX0 1 "_law_tape" ["script"] (sp_tape K)) (C__law_draw : Cal P w K mg base CX0 1 "_law_draw" ["tape", "many"] sp_draw) (C__law_shape : Cal P w K mg base CX0 2 "_law_shape" ["tape"] (SpG D_shape)) (C__law_teller : Cal P w K mg base CX0 9 "_law_teller" ["tape", "shape"] (SpG D_tel)) (C__law_long : Cal P w K mg base CX0 2 "_law_long" ["tape"] (SpG D_long)) (C__law_talk : Cal P w K mg base CX0 6 "_law_talk" ["tape", "teller", "turns"] (SpG D_talk)) : FnOk P w K mg base CX0 10 fL fdL ["script"] (sp_law K) := by
  have sc := sc_law
  refine FL.ok (k := 9) sc (fun vs H Q E h => by obtain ⟨_, _, rfl, _⟩ := h; rfl) (fun cdv A outer s H vs Q E hr h => ⟨_, (pss_cons (ps_set (i := 1) sc.nd rfl (by first | exact Or.inl rfl | exact Or.inr rfl) (pe_cal C__law_tape (hr.mono (by first | decide | omega)) rfl pass0 (pa_cons (pv 0) pa_nil)))
  (pss_cons (ps_set (i := 2) sc.nd rfl (by first | exact Or.inl rfl | exact Or.inr rfl) (pe_cal C__law_shape (hr.mono (by first | decide | omega)) rfl pass0 (pa_cons (pv 1) pa_nil)))
  (pss_cons (ps_for PassesOwn.never rfl (pi_range1 (by rfl) T.n_range (pa_cons pe_int pa_nil)) (pg_name (i := 3) sc.nd rfl (by first | exact Or.inl rfl | exact Or.inr rfl)) (pss_one (ps_if (pt_not (pt_val (pe_cal C__law_talk (hr.mono (by first | decide | omega)) rfl pass0 (pa_cons (pv 1) (pa_cons (pe_cal C__law_teller (hr.mono (by first | decide | omega)) rfl pass0 (pa_cons (pv 1) (pa_cons (pv 2) pa_nil))) (pa_cons pe_int pa_nil)))))) (pss_one (ps_ret pe_bl)) pss_nil)))
  (pss_one (ps_ret (pe_or (pe_cmpR op_gt (pe_cal C__law_draw (hr.mono (by first | decide | omega)) rfl pass0 (pa_cons (pv 1) (pa_cons pe_int pa_nil))) pe_int (nomark _)) (pe_one (pe_cal C__law_talk (hr.mono (by first | decide | omega)) rfl pass0 (pa_cons (pv 1) (pa_cons (pe_cal C__law_long (hr.mono (by first | decide | omega)) rfl pass0 (pa_cons (pv 1) pa_nil)) (pa_cons pe_int pa_nil))))))))))), ?_⟩)
  obtain ⟨a, ns, rfl, hs, hl, kk⟩ := h
  show tSeq _ _ _ [some (.ref a), none, none, none] H
  refine q_asgRun (call_run (ea_cons (ev_var rfl) ea_nil) fun H1 e1 => ⟨a, ns, rfl, ex_l e1 hs, hl, fun t c H2 e2 T2 => ?_⟩)
  show tSeq (tAsg _ _) _ _ [some (.ref a), some (.ref t), none, none] H2
  refine q_asgG (t := t) (c := c) T2 (eg_call (it := 1) (P := fun d => ∃ (x y : Int) (R G : Nat) (e : Int), (R ≤ 1000 ∧ 1 ≤ G ∧ G ≤ 1000) ∧ d = eShape x y R G e) rfl (egs0 ⟨rfl, fun x y R G e h1 h2 h3 => ⟨x, y, R, G, e, ⟨h1, h2, h3⟩, rfl⟩⟩)) ?_
  rintro sh d H3 g3 s3 ⟨x, y, R, G, e, ⟨hR, hG1, hG2⟩, rfl⟩ ish
  show tSeq (tFor _ _ _) _ _ [some (.ref a), some (.ref t), some sh, none] H3
  refine q_forR1 (n := 3) (ea_cons ev_c ea_nil) ⟨by omega, by omega⟩ (fun k σ' H' => (∃ o3, σ' = [some (.ref a), some (.ref t), some sh, o3]) ∧ Go t c H3 H') (fun H4 e4 => ⟨⟨none, rfl⟩, Go.of g3.2 e4⟩) ?_ ?_
  · rintro k σ' H4 hk ⟨⟨o3, rfl⟩, g4⟩
    show tIfS _ _ _ _ [some (.ref a), some (.ref t), some sh, some (.int (k : Nat))] H4
    refine s_ifG (t := t) (c := c) (PB := fun b => b = false) g4.2 (EvGT.w (egt_not (PB := fun b => b = true) (egt_B (eg_call (it := 1) rfl (egs1 (P := fun d => ∃ cnt bl, TelOk cnt bl ∧ d = eTel cnt bl) (eg_call (it := 1) rfl (egs1 (P := fun d => d = eShape x y R G e) (eg_var rfl (g4.im s3 ish) s3 rfl) fun d1 p1 => egs0 ?_)) fun d1 p1 => egs1 (P := fun d => d = .int ((12 : Nat) : Int)) (eg_i _ rfl) fun d2 p2 => egs0 ?_)))) (fun b hb => by cases b <;> first | rfl | cases hb)) (fun h => by cases h) ?_
    · subst p1
      exact ⟨x, y, R, G, e, rfl, hR, hG1, hG2, fun cnt bl ok => ⟨cnt, bl, ok, rfl⟩⟩
    · obtain ⟨cnt, bl, ok, rfl⟩ := p1
      subst p2
      exact ⟨cnt, bl, 12, rfl, ok, Nat.le_refl _, true, rfl, rfl⟩
    · intro _ H5 g5
      exact ⟨⟨_, rfl⟩, g4.trans g5⟩
  · rintro σ' H4 ⟨⟨o3, rfl⟩, g4⟩
    refine s_retG (t := t) (c := c) (P := fun d => d = .bool true) g4.2 (eg_orV (PB := fun _ => True) (eg_B0 (gg := fun i j => decide (j < i)) (PA := fun _ => True) (PB := fun _ => True) (eg_draw (it := 1) (m := 3) rfl (fun H5 g5 => ed_i _) (by omega) (by omega) fun r _ => ⟨_, rfl, trivial⟩) (eg_i 0 ⟨_, rfl, trivial⟩) fun i j _ _ => ⟨_, rfl, trivial⟩) (fun _ => rfl) (fun _ => eg_call (it := 1) rfl (egs1 (P := fun d => ∃ cnt bl, TelOk cnt bl ∧ d = eTel cnt bl) (eg_call (it := 1) rfl (egs0 ⟨rfl, fun cnt bl ok => ⟨cnt, bl, ok, rfl⟩⟩)) fun d1 p1 => egs1 (P := fun d => d = .int ((2 : Nat) : Int)) (eg_i _ rfl) fun d2 p2 => egs0 ?_))) ?_
    · obtain ⟨cnt, bl, ok, rfl⟩ := p1
      subst p2
      exact ⟨cnt, bl, 2, rfl, ok, by omega, rfl⟩
    · rintro v d H5 g5 s5 rfl iv
      cases iv.b
      exact kk H5
end
end K97
set_option Elab.async false
set_option linter.all false
set_option maxRecDepth 100000
set_option maxHeartbeats 8000000
namespace K97
open PySem PySem.Spec PyProof.Rows L2 Evl Pd
section
variable {P : Program} {w : World} {K : PySem.W.Frag} {mg : Str → Option Value} {base : Heap}
theorem all_mk {l : PySem.W.OpenLaw} {h : Heap} {fa : Addr} (X : K.In h) (G : h.Ns mainGlobals mg) (hfa : mg "law" = some (.ref fa))
    {f1 : Addr} {od1 an1 : Option Addr} {sl1 : Array (Option Value)} {oc1 kV1 dc1 pm1 cd1 ct1 : Value}
    (a1 : PySem.W.nsIn K mainGlobals "is_integer" = some (some (.ref f1))) (l1 : K.lookup f1 = some ⟨oc1, od1, .func (PySem.W.fnOf "is_integer" "is_integer" (defArgs st_is_integer) (defBody st_is_integer) (defScope st_is_integer) .none kV1 dc1 pm1 an1 cd1 ct1), sl1⟩) (c1 : PySem.W.codeIn K cd1 "is_integer" = true) (k1 : PySem.W.keepIn K (.ref f1) = true)
    {f2 : Addr} {od2 an2 : Option Addr} {sl2 : Array (Option Value)} {oc2 kV2 dc2 pm2 cd2 ct2 : Value}
    (a2 : PySem.W.nsIn K mainGlobals "is_count" = some (some (.ref f2))) (l2 : K.lookup f2 = some ⟨oc2, od2, .func (PySem.W.fnOf "is_count" "is_count" (defArgs st_is_count) (defBody st_is_count) (defScope st_is_count) .none kV2 dc2 pm2 an2 cd2 ct2), sl2⟩) (c2 : PySem.W.codeIn K cd2 "is_count" = true) (k2 : PySem.W.keepIn K (.ref f2) = true)
    {f3 : Addr} {od3 an3 : Option Addr} {sl3 : Array (Option Value)} {oc3 kV3 dc3 pm3 cd3 ct3 : Value}
    (a3 : PySem.W.nsIn K mainGlobals "is_index" = some (some (.ref f3))) (l3 : K.lookup f3 = some ⟨oc3, od3, .func (PySem.W.fnOf "is_index" "is_index" (defArgs st_is_index) (defBody st_is_index) (defScope st_is_index) .none kV3 dc3 pm3 an3 cd3 ct3), sl3⟩) (c3 : PySem.W.codeIn K cd3 "is_index" = true) (k3 : PySem.W.keepIn K (.ref f3) = true)
    {f4 : Addr} {od4 an4 : Option Addr} {sl4 : Array (Option Value)} {oc4 kV4 dc4 pm4 cd4 ct4 : Value}
    (a4 : PySem.W.nsIn K mainGlobals "filled" = some (some (.ref f4))) (l4 : K.lookup f4 = some ⟨oc4, od4, .func (PySem.W.fnOf "filled" "filled" (defArgs st_filled) (defBody st_filled) (defScope st_filled) .none kV4 dc4 pm4 an4 cd4 ct4), sl4⟩) (c4 : PySem.W.codeIn K cd4 "filled" = true) (k4 : PySem.W.keepIn K (.ref f4) = true)
    {f5 : Addr} {od5 an5 : Option Addr} {sl5 : Array (Option Value)} {oc5 kV5 dc5 pm5 cd5 ct5 : Value}
    (a5 : PySem.W.nsIn K mainGlobals "first_state" = some (some (.ref f5))) (l5 : K.lookup f5 = some ⟨oc5, od5, .func (PySem.W.fnOf "first_state" "first_state" (defArgs st_first_state) (defBody st_first_state) (defScope st_first_state) .none kV5 dc5 pm5 an5 cd5 ct5), sl5⟩) (c5 : PySem.W.codeIn K cd5 "first_state" = true) (k5 : PySem.W.keepIn K (.ref f5) = true)
    {f6 : Addr} {od6 an6 : Option Addr} {sl6 : Array (Option Value)} {oc6 kV6 dc6 pm6 cd6 ct6 : Value}
    (a6 : PySem.W.nsIn K mainGlobals "holds" = some (some (.ref f6))) (l6 : K.lookup f6 = some ⟨oc6, od6, .func (PySem.W.fnOf "holds" "holds" (defArgs st_holds) (defBody st_holds) (defScope st_holds) .none kV6 dc6 pm6 an6 cd6 ct6), sl6⟩) (c6 : PySem.W.codeIn K cd6 "holds" = true) (k6 : PySem.W.keepIn K (.ref f6) = true)
    {f7 : Addr} {od7 an7 : Option Addr} {sl7 : Array (Option Value)} {oc7 kV7 dc7 pm7 cd7 ct7 : Value}
    (a7 : PySem.W.nsIn K mainGlobals "with_counter" = some (some (.ref f7))) (l7 : K.lookup f7 = some ⟨oc7, od7, .func (PySem.W.fnOf "with_counter" "with_counter" (defArgs st_with_counter) (defBody st_with_counter) (defScope st_with_counter) .none kV7 dc7 pm7 an7 cd7 ct7), sl7⟩) (c7 : PySem.W.codeIn K cd7 "with_counter" = true) (k7 : PySem.W.keepIn K (.ref f7) = true)
    {f8 : Addr} {od8 an8 : Option Addr} {sl8 : Array (Option Value)} {oc8 kV8 dc8 pm8 cd8 ct8 : Value}
    (a8 : PySem.W.nsIn K mainGlobals "kept_worth" = some (some (.ref f8))) (l8 : K.lookup f8 = some ⟨oc8, od8, .func (PySem.W.fnOf "kept_worth" "kept_worth" (defArgs st_kept_worth) (defBody st_kept_worth) (defScope st_kept_worth) .none kV8 dc8 pm8 an8 cd8 ct8), sl8⟩) (c8 : PySem.W.codeIn K cd8 "kept_worth" = true) (k8 : PySem.W.keepIn K (.ref f8) = true)
    {f9 : Addr} {od9 an9 : Option Addr} {sl9 : Array (Option Value)} {oc9 kV9 dc9 pm9 cd9 ct9 : Value}
    (a9 : PySem.W.nsIn K mainGlobals "inner_step" = some (some (.ref f9))) (l9 : K.lookup f9 = some ⟨oc9, od9, .func (PySem.W.fnOf "inner_step" "inner_step" (defArgs st_inner_step) (defBody st_inner_step) (defScope st_inner_step) .none kV9 dc9 pm9 an9 cd9 ct9), sl9⟩) (c9 : PySem.W.codeIn K cd9 "inner_step" = true) (k9 : PySem.W.keepIn K (.ref f9) = true)
    {f10 : Addr} {od10 an10 : Option Addr} {sl10 : Array (Option Value)} {oc10 kV10 dc10 pm10 cd10 ct10 : Value}
    (a10 : PySem.W.nsIn K mainGlobals "next_of" = some (some (.ref f10))) (l10 : K.lookup f10 = some ⟨oc10, od10, .func (PySem.W.fnOf "next_of" "next_of" (defArgs st_next_of) (defBody st_next_of) (defScope st_next_of) .none kV10 dc10 pm10 an10 cd10 ct10), sl10⟩) (c10 : PySem.W.codeIn K cd10 "next_of" = true) (k10 : PySem.W.keepIn K (.ref f10) = true)
    {f11 : Addr} {od11 an11 : Option Addr} {sl11 : Array (Option Value)} {oc11 kV11 dc11 pm11 cd11 ct11 : Value}
    (a11 : PySem.W.nsIn K mainGlobals "told" = some (some (.ref f11))) (l11 : K.lookup f11 = some ⟨oc11, od11, .func (PySem.W.fnOf "told" "told" (defArgs st_told) (defBody st_told) (defScope st_told) .none kV11 dc11 pm11 an11 cd11 ct11), sl11⟩) (c11 : PySem.W.codeIn K cd11 "told" = true) (k11 : PySem.W.keepIn K (.ref f11) = true)
    {f12 : Addr} {od12 an12 : Option Addr} {sl12 : Array (Option Value)} {oc12 kV12 dc12 pm12 cd12 ct12 : Value}
    (a12 : PySem.W.nsIn K mainGlobals "_law_tape" = some (some (.ref f12))) (l12 : K.lookup f12 = some ⟨oc12, od12, .func (PySem.W.fnOf "_law_tape" "_law_tape" (defArgs st__law_tape) (defBody st__law_tape) (defScope st__law_tape) .none kV12 dc12 pm12 an12 cd12 ct12), sl12⟩) (c12 : PySem.W.codeIn K cd12 "_law_tape" = true) (k12 : PySem.W.keepIn K (.ref f12) = true)
    {f13 : Addr} {od13 an13 : Option Addr} {sl13 : Array (Option Value)} {oc13 kV13 dc13 pm13 cd13 ct13 : Value}
    (a13 : PySem.W.nsIn K mainGlobals "_law_draw" = some (some (.ref f13))) (l13 : K.lookup f13 = some ⟨oc13, od13, .func (PySem.W.fnOf "_law_draw" "_law_draw" (defArgs st__law_draw) (defBody st__law_draw) (defScope st__law_draw) .none kV13 dc13 pm13 an13 cd13 ct13), sl13⟩) (c13 : PySem.W.codeIn K cd13 "_law_draw" = true) (k13 : PySem.W.keepIn K (.ref f13) = true)
    {f14 : Addr} {od14 an14 : Option Addr} {sl14 : Array (Option Value)} {oc14 kV14 dc14 pm14 cd14 ct14 : Value}
    (a14 : PySem.W.nsIn K mainGlobals "_law_pick" = some (some (.ref f14))) (l14 : K.lookup f14 = some ⟨oc14, od14, .func (PySem.W.fnOf "_law_pick" "_law_pick" (defArgs st__law_pick) (defBody st__law_pick) (defScope st__law_pick) .none kV14 dc14 pm14 an14 cd14 ct14), sl14⟩) (c14 : PySem.W.codeIn K cd14 "_law_pick" = true) (k14 : PySem.W.keepIn K (.ref f14) = true)
    {f15 : Addr} {od15 an15 : Option Addr} {sl15 : Array (Option Value)} {oc15 kV15 dc15 pm15 cd15 ct15 : Value}
    (a15 : PySem.W.nsIn K mainGlobals "_law_same" = some (some (.ref f15))) (l15 : K.lookup f15 = some ⟨oc15, od15, .func (PySem.W.fnOf "_law_same" "_law_same" (defArgs st__law_same) (defBody st__law_same) (defScope st__law_same) .none kV15 dc15 pm15 an15 cd15 ct15), sl15⟩) (c15 : PySem.W.codeIn K cd15 "_law_same" = true) (k15 : PySem.W.keepIn K (.ref f15) = true)
    {f16 : Addr} {od16 an16 : Option Addr} {sl16 : Array (Option Value)} {oc16 kV16 dc16 pm16 cd16 ct16 : Value}
    (a16 : PySem.W.nsIn K mainGlobals "_law_operation" = some (some (.ref f16))) (l16 : K.lookup f16 = some ⟨oc16, od16, .func (PySem.W.fnOf "_law_operation" "_law_operation" (defArgs st__law_operation) (defBody st__law_operation) (defScope st__law_operation) .none kV16 dc16 pm16 an16 cd16 ct16), sl16⟩) (c16 : PySem.W.codeIn K cd16 "_law_operation" = true) (k16 : PySem.W.keepIn K (.ref f16) = true)
    {f17 : Addr} {od17 an17 : Option Addr} {sl17 : Array (Option Value)} {oc17 kV17 dc17 pm17 cd17 ct17 : Value}
    (a17 : PySem.W.nsIn K mainGlobals "_law_shape" = some (some (.ref f17))) (l17 : K.lookup f17 = some ⟨oc17, od17, .func (PySem.W.fnOf "_law_shape" "_law_shape" (defArgs st__law_shape) (defBody st__law_shape) (defScope st__law_shape) .none kV17 dc17 pm17 an17 cd17 ct17), sl17⟩) (c17 : PySem.W.codeIn K cd17 "_law_shape" = true) (k17 : PySem.W.keepIn K (.ref f17) = true)
    {f18 : Addr} {od18 an18 : Option Addr} {sl18 : Array (Option Value)} {oc18 kV18 dc18 pm18 cd18 ct18 : Value}
    (a18 : PySem.W.nsIn K mainGlobals "_law_test" = some (some (.ref f18))) (l18 : K.lookup f18 = some ⟨oc18, od18, .func (PySem.W.fnOf "_law_test" "_law_test" (defArgs st__law_test) (defBody st__law_test) (defScope st__law_test) .none kV18 dc18 pm18 an18 cd18 ct18), sl18⟩) (c18 : PySem.W.codeIn K cd18 "_law_test" = true) (k18 : PySem.W.keepIn K (.ref f18) = true)
    {f19 : Addr} {od19 an19 : Option Addr} {sl19 : Array (Option Value)} {oc19 kV19 dc19 pm19 cd19 ct19 : Value}
    (a19 : PySem.W.nsIn K mainGlobals "_law_do_row" = some (some (.ref f19))) (l19 : K.lookup f19 = some ⟨oc19, od19, .func (PySem.W.fnOf "_law_do_row" "_law_do_row" (defArgs st__law_do_row) (defBody st__law_do_row) (defScope st__law_do_row) .none kV19 dc19 pm19 an19 cd19 ct19), sl19⟩) (c19 : PySem.W.codeIn K cd19 "_law_do_row" = true) (k19 : PySem.W.keepIn K (.ref f19) = true)
    {f20 : Addr} {od20 an20 : Option Addr} {sl20 : Array (Option Value)} {oc20 kV20 dc20 pm20 cd20 ct20 : Value}
    (a20 : PySem.W.nsIn K mainGlobals "_law_block" = some (some (.ref f20))) (l20 : K.lookup f20 = some ⟨oc20, od20, .func (PySem.W.fnOf "_law_block" "_law_block" (defArgs st__law_block) (defBody st__law_block) (defScope st__law_block) .none kV20 dc20 pm20 an20 cd20 ct20), sl20⟩) (c20 : PySem.W.codeIn K cd20 "_law_block" = true) (k20 : PySem.W.keepIn K (.ref f20) = true)
    {f21 : Addr} {od21 an21 : Option Addr} {sl21 : Array (Option Value)} {oc21 kV21 dc21 pm21 cd21 ct21 : Value}
    (a21 : PySem.W.nsIn K mainGlobals "_law_teller" = some (some (.ref f21))) (l21 : K.lookup f21 = some ⟨oc21, od21, .func (PySem.W.fnOf "_law_teller" "_law_teller" (defArgs st__law_teller) (defBody st__law_teller) (defScope st__law_teller) .none kV21 dc21 pm21 an21 cd21 ct21), sl21⟩) (c21 : PySem.W.codeIn K cd21 "_law_teller" = true) (k21 : PySem.W.keepIn K (.ref f21) = true)
    {f22 : Addr} {od22 an22 : Option Addr} {sl22 : Array (Option Value)} {oc22 kV22 dc22 pm22 cd22 ct22 : Value}
    (a22 : PySem.W.nsIn K mainGlobals "_law_voice" = some (some (.ref f22))) (l22 : K.lookup f22 = some ⟨oc22, od22, .func (PySem.W.fnOf "_law_voice" "_law_voice" (defArgs st__law_voice) (defBody st__law_voice) (defScope st__law_voice) .none kV22 dc22 pm22 an22 cd22 ct22), sl22⟩) (c22 : PySem.W.codeIn K cd22 "_law_voice" = true) (k22 : PySem.W.keepIn K (.ref f22) = true)
    {f23 : Addr} {od23 an23 : Option Addr} {sl23 : Array (Option Value)} {oc23 kV23 dc23 pm23 cd23 ct23 : Value}
    (a23 : PySem.W.nsIn K mainGlobals "_law_holds" = some (some (.ref f23))) (l23 : K.lookup f23 = some ⟨oc23, od23, .func (PySem.W.fnOf "_law_holds" "_law_holds" (defArgs st__law_holds) (defBody st__law_holds) (defScope st__law_holds) .none kV23 dc23 pm23 an23 cd23 ct23), sl23⟩) (c23 : PySem.W.codeIn K cd23 "_law_holds" = true) (k23 : PySem.W.keepIn K (.ref f23) = true)
    {f24 : Addr} {od24 an24 : Option Addr} {sl24 : Array (Option Value)} {oc24 kV24 dc24 pm24 cd24 ct24 : Value}
    (a24 : PySem.W.nsIn K mainGlobals "_law_counted" = some (some (.ref f24))) (l24 : K.lookup f24 = some ⟨oc24, od24, .func (PySem.W.fnOf "_law_counted" "_law_counted" (defArgs st__law_counted) (defBody st__law_counted) (defScope st__law_counted) .none kV24 dc24 pm24 an24 cd24 ct24), sl24⟩) (c24 : PySem.W.codeIn K cd24 "_law_counted" = true) (k24 : PySem.W.keepIn K (.ref f24) = true)
    {f25 : Addr} {od25 an25 : Option Addr} {sl25 : Array (Option Value)} {oc25 kV25 dc25 pm25 cd25 ct25 : Value}
    (a25 : PySem.W.nsIn K mainGlobals "_law_inner" = some (some (.ref f25))) (l25 : K.lookup f25 = some ⟨oc25, od25, .func (PySem.W.fnOf "_law_inner" "_law_inner" (defArgs st__law_inner) (defBody st__law_inner) (defScope st__law_inner) .none kV25 dc25 pm25 an25 cd25 ct25), sl25⟩) (c25 : PySem.W.codeIn K cd25 "_law_inner" = true) (k25 : PySem.W.keepIn K (.ref f25) = true)
    {f26 : Addr} {od26 an26 : Option Addr} {sl26 : Array (Option Value)} {oc26 kV26 dc26 pm26 cd26 ct26 : Value}
    (a26 : PySem.W.nsIn K mainGlobals "_law_choice" = some (some (.ref f26))) (l26 : K.lookup f26 = some ⟨oc26, od26, .func (PySem.W.fnOf "_law_choice" "_law_choice" (defArgs st__law_choice) (defBody st__law_choice) (defScope st__law_choice) .none kV26 dc26 pm26 an26 cd26 ct26), sl26⟩) (c26 : PySem.W.codeIn K cd26 "_law_choice" = true) (k26 : PySem.W.keepIn K (.ref f26) = true)
    {f27 : Addr} {od27 an27 : Option Addr} {sl27 : Array (Option Value)} {oc27 kV27 dc27 pm27 cd27 ct27 : Value}
    (a27 : PySem.W.nsIn K mainGlobals "_law_hear" = some (some (.ref f27))) (l27 : K.lookup f27 = some ⟨oc27, od27, .func (PySem.W.fnOf "_law_hear" "_law_hear" (defArgs st__law_hear) (defBody st__law_hear) (defScope st__law_hear) .none kV27 dc27 pm27 an27 cd27 ct27), sl27⟩) (c27 : PySem.W.codeIn K cd27 "_law_hear" = true) (k27 : PySem.W.keepIn K (.ref f27) = true)
    {f28 : Addr} {od28 an28 : Option Addr} {sl28 : Array (Option Value)} {oc28 kV28 dc28 pm28 cd28 ct28 : Value}
    (a28 : PySem.W.nsIn K mainGlobals "_law_is_due" = some (some (.ref f28))) (l28 : K.lookup f28 = some ⟨oc28, od28, .func (PySem.W.fnOf "_law_is_due" "_law_is_due" (defArgs st__law_is_due) (defBody st__law_is_due) (defScope st__law_is_due) .none kV28 dc28 pm28 an28 cd28 ct28), sl28⟩) (c28 : PySem.W.codeIn K cd28 "_law_is_due" = true) (k28 : PySem.W.keepIn K (.ref f28) = true)
    {f29 : Addr} {od29 an29 : Option Addr} {sl29 : Array (Option Value)} {oc29 kV29 dc29 pm29 cd29 ct29 : Value}
    (a29 : PySem.W.nsIn K mainGlobals "_law_shows" = some (some (.ref f29))) (l29 : K.lookup f29 = some ⟨oc29, od29, .func (PySem.W.fnOf "_law_shows" "_law_shows" (defArgs st__law_shows) (defBody st__law_shows) (defScope st__law_shows) .none kV29 dc29 pm29 an29 cd29 ct29), sl29⟩) (c29 : PySem.W.codeIn K cd29 "_law_shows" = true) (k29 : PySem.W.keepIn K (.ref f29) = true)
    {f30 : Addr} {od30 an30 : Option Addr} {sl30 : Array (Option Value)} {oc30 kV30 dc30 pm30 cd30 ct30 : Value}
    (a30 : PySem.W.nsIn K mainGlobals "_law_talk" = some (some (.ref f30))) (l30 : K.lookup f30 = some ⟨oc30, od30, .func (PySem.W.fnOf "_law_talk" "_law_talk" (defArgs st__law_talk) (defBody st__law_talk) (defScope st__law_talk) .none kV30 dc30 pm30 an30 cd30 ct30), sl30⟩) (c30 : PySem.W.codeIn K cd30 "_law_talk" = true) (k30 : PySem.W.keepIn K (.ref f30) = true)
    {f31 : Addr} {od31 an31 : Option Addr} {sl31 : Array (Option Value)} {oc31 kV31 dc31 pm31 cd31 ct31 : Value}
    (a31 : PySem.W.nsIn K mainGlobals "_law_long" = some (some (.ref f31))) (l31 : K.lookup f31 = some ⟨oc31, od31, .func (PySem.W.fnOf "_law_long" "_law_long" (defArgs st__law_long) (defBody st__law_long) (defScope st__law_long) .none kV31 dc31 pm31 an31 cd31 ct31), sl31⟩) (c31 : PySem.W.codeIn K cd31 "_law_long" = true) (k31 : PySem.W.keepIn K (.ref f31) = true)
    {f32 : Addr} {od32 an32 : Option Addr} {sl32 : Array (Option Value)} {oc32 kV32 dc32 pm32 cd32 ct32 : Value}
    (a32 : PySem.W.nsIn K mainGlobals "law" = some (some (.ref f32))) (l32 : K.lookup f32 = some ⟨oc32, od32, .func (PySem.W.fnOf "law" "law" (defArgs st_law) (defBody st_law) (defScope st_law) .none kV32 dc32 pm32 an32 cd32 ct32), sl32⟩) (c32 : PySem.W.codeIn K cd32 "law" = true) (k32 : PySem.W.keepIn K (.ref f32) = true)
    (z_isinstance : PySem.W.nsIn K mainGlobals "isinstance" = some none)
    (z_len : PySem.W.nsIn K mainGlobals "len" = some none)
    (z_all : PySem.W.nsIn K mainGlobals "all" = some none)
    (z_tuple : PySem.W.nsIn K mainGlobals "tuple" = some none)
    (z_str : PySem.W.nsIn K mainGlobals "str" = some none)
    (z_int : PySem.W.nsIn K mainGlobals "int" = some none)
    (z_bool : PySem.W.nsIn K mainGlobals "bool" = some none)
    (z_abs : PySem.W.nsIn K mainGlobals "abs" = some none)
    (z_list : PySem.W.nsIn K mainGlobals "list" = some none)
    (z_range : PySem.W.nsIn K mainGlobals "range" = some none)
    {t_LIMIT : Tok} (v_LIMIT : PySem.W.nsIn K mainGlobals "LIMIT" = some (some (.int 1000000000000000000 t_LIMIT)))
    {t_MOST_INNER : Tok} (v_MOST_INNER : PySem.W.nsIn K mainGlobals "MOST_INNER" = some (some (.int 1000 t_MOST_INNER)))
    {t_COUNTER : Tok} (v_COUNTER : PySem.W.nsIn K mainGlobals "COUNTER" = some (some (.str "counter" t_COUNTER))) :
    ∃ fd : FuncData, (∀ (s : Shared) (v : Value), BindsTo s fd ⟨[v], []⟩ [("script", v)]) ∧ ∀ base : Heap, K.In base → base.Ns mainGlobals mg → FnOk l.prog w K mg base CX0 10 fa fd ["script"] (sp_law K) := by
  have e := hfa.symm.trans (PySem.W.mg_of X G a32)
  cases e
  have T : Txt K mg := { n_isinstance := PySem.W.mg_none_of X G z_isinstance, n_len := PySem.W.mg_none_of X G z_len, n_all := PySem.W.mg_none_of X G z_all, n_tuple := PySem.W.mg_none_of X G z_tuple, n_str := PySem.W.mg_none_of X G z_str, n_int := PySem.W.mg_none_of X G z_int, n_bool := PySem.W.mg_none_of X G z_bool, n_abs := PySem.W.mg_none_of X G z_abs, n_list := PySem.W.mg_none_of X G z_list, n_range := PySem.W.mg_none_of X G z_range, c_LIMIT := ⟨_, PySem.W.mg_of X G v_LIMIT, ⟨_, rfl⟩⟩, c_MOST_INNER := ⟨_, PySem.W.mg_of X G v_MOST_INNER, ⟨_, rfl⟩⟩, c_COUNTER := ⟨_, PySem.W.mg_of X G v_COUNTER, ⟨_, rfl⟩⟩ }
  have S_is_integer : Src K mg "is_integer" st_is_integer ["value"] := ⟨f1, _, PySem.W.mg_of X G a1, fun_mk (st := st_is_integer) l1 c1 k1, (fun_mk (st := st_is_integer) l1 c1 k1).binds (ps := ["value"]) fun _ _ _ _ _ _ us hl => match us, hl with | [_], _ => rfl⟩
  have S_is_count : Src K mg "is_count" st_is_count ["value"] := ⟨f2, _, PySem.W.mg_of X G a2, fun_mk (st := st_is_count) l2 c2 k2, (fun_mk (st := st_is_count) l2 c2 k2).binds (ps := ["value"]) fun _ _ _ _ _ _ us hl => match us, hl with | [_], _ => rfl⟩
  have S_is_index : Src K mg "is_index" st_is_index ["value", "count"] := ⟨f3, _, PySem.W.mg_of X G a3, fun_mk (st := st_is_index) l3 c3 k3, (fun_mk (st := st_is_index) l3 c3 k3).binds (ps := ["value", "count"]) fun _ _ _ _ _ _ us hl => match us, hl with | [_, _], _ => rfl⟩
  have S_filled : Src K mg "filled" st_filled ["operation", "counters"] := ⟨f4, _, PySem.W.mg_of X G a4, fun_mk (st := st_filled) l4 c4 k4, (fun_mk (st := st_filled) l4 c4 k4).binds (ps := ["operation", "counters"]) fun _ _ _ _ _ _ us hl => match us, hl with | [_, _], _ => rfl⟩
  have S_first_state : Src K mg "first_state" st_first_state ["teller"] := ⟨f5, _, PySem.W.mg_of X G a5, fun_mk (st := st_first_state) l5 c5 k5, (fun_mk (st := st_first_state) l5 c5 k5).binds (ps := ["teller"]) fun _ _ _ _ _ _ us hl => match us, hl with | [_], _ => rfl⟩
  have S_holds : Src K mg "holds" st_holds ["test", "counters", "last"] := ⟨f6, _, PySem.W.mg_of X G a6, fun_mk (st := st_holds) l6 c6 k6, (fun_mk (st := st_holds) l6 c6 k6).binds (ps := ["test", "counters", "last"]) fun _ _ _ _ _ _ us hl => match us, hl with | [_, _, _], _ => rfl⟩
  have S_with_counter : Src K mg "with_counter" st_with_counter ["counters", "index", "worth"] := ⟨f7, _, PySem.W.mg_of X G a7, fun_mk (st := st_with_counter) l7 c7 k7, (fun_mk (st := st_with_counter) l7 c7 k7).binds (ps := ["counters", "index", "worth"]) fun _ _ _ _ _ _ us hl => match us, hl with | [_, _, _], _ => rfl⟩
  have S_kept_worth : Src K mg "kept_worth" st_kept_worth ["last"] := ⟨f8, _, PySem.W.mg_of X G a8, fun_mk (st := st_kept_worth) l8 c8 k8, (fun_mk (st := st_kept_worth) l8 c8 k8).binds (ps := ["last"]) fun _ _ _ _ _ _ us hl => match us, hl with | [_], _ => rfl⟩
  have S_inner_step : Src K mg "inner_step" st_inner_step ["state"] := ⟨f9, _, PySem.W.mg_of X G a9, fun_mk (st := st_inner_step) l9 c9 k9, (fun_mk (st := st_inner_step) l9 c9 k9).binds (ps := ["state"]) fun _ _ _ _ _ _ us hl => match us, hl with | [_], _ => rfl⟩
  have S_next_of : Src K mg "next_of" st_next_of ["state"] := ⟨f10, _, PySem.W.mg_of X G a10, fun_mk (st := st_next_of) l10 c10 k10, (fun_mk (st := st_next_of) l10 c10 k10).binds (ps := ["state"]) fun _ _ _ _ _ _ us hl => match us, hl with | [_], _ => rfl⟩
  have S_told : Src K mg "told" st_told ["state", "answer"] := ⟨f11, _, PySem.W.mg_of X G a11, fun_mk (st := st_told) l11 c11 k11, (fun_mk (st := st_told) l11 c11 k11).binds (ps := ["state", "answer"]) fun _ _ _ _ _ _ us hl => match us, hl with | [_, _], _ => rfl⟩
  have S__law_tape : Src K mg "_law_tape" st__law_tape ["script"] := ⟨f12, _, PySem.W.mg_of X G a12, fun_mk (st := st__law_tape) l12 c12 k12, (fun_mk (st := st__law_tape) l12 c12 k12).binds (ps := ["script"]) fun _ _ _ _ _ _ us hl => match us, hl with | [_], _ => rfl⟩
  have S__law_draw : Src K mg "_law_draw" st__law_draw ["tape", "many"] := ⟨f13, _, PySem.W.mg_of X G a13, fun_mk (st := st__law_draw) l13 c13 k13, (fun_mk (st := st__law_draw) l13 c13 k13).binds (ps := ["tape", "many"]) fun _ _ _ _ _ _ us hl => match us, hl with | [_, _], _ => rfl⟩
  have S__law_pick : Src K mg "_law_pick" st__law_pick ["tape", "row"] := ⟨f14, _, PySem.W.mg_of X G a14, fun_mk (st := st__law_pick) l14 c14 k14, (fun_mk (st := st__law_pick) l14 c14 k14).binds (ps := ["tape", "row"]) fun _ _ _ _ _ _ us hl => match us, hl with | [_, _], _ => rfl⟩
  have S__law_same : Src K mg "_law_same" st__law_same ["one", "other"] := ⟨f15, _, PySem.W.mg_of X G a15, fun_mk (st := st__law_same) l15 c15 k15, (fun_mk (st := st__law_same) l15 c15 k15).binds (ps := ["one", "other"]) fun _ _ _ _ _ _ us hl => match us, hl with | [_, _], _ => rfl⟩
  have S__law_operation : Src K mg "_law_operation" st__law_operation ["tape", "roots", "registers"] := ⟨f16, _, PySem.W.mg_of X G a16, fun_mk (st := st__law_operation) l16 c16 k16, (fun_mk (st := st__law_operation) l16 c16 k16).binds (ps := ["tape", "roots", "registers"]) fun _ _ _ _ _ _ us hl => match us, hl with | [_, _, _], _ => rfl⟩
  have S__law_shape : Src K mg "_law_shape" st__law_shape ["tape"] := ⟨f17, _, PySem.W.mg_of X G a17, fun_mk (st := st__law_shape) l17 c17 k17, (fun_mk (st := st__law_shape) l17 c17 k17).binds (ps := ["tape"]) fun _ _ _ _ _ _ us hl => match us, hl with | [_], _ => rfl⟩
  have S__law_test : Src K mg "_law_test" st__law_test ["tape", "count", "depth"] := ⟨f18, _, PySem.W.mg_of X G a18, fun_mk (st := st__law_test) l18 c18 k18, (fun_mk (st := st__law_test) l18 c18 k18).binds (ps := ["tape", "count", "depth"]) fun _ _ _ _ _ _ us hl => match us, hl with | [_, _, _], _ => rfl⟩
  have S__law_do_row : Src K mg "_law_do_row" st__law_do_row ["tape", "shape", "count"] := ⟨f19, _, PySem.W.mg_of X G a19, fun_mk (st := st__law_do_row) l19 c19 k19, (fun_mk (st := st__law_do_row) l19 c19 k19).binds (ps := ["tape", "shape", "count"]) fun _ _ _ _ _ _ us hl => match us, hl with | [_, _, _], _ => rfl⟩
  have S__law_block : Src K mg "_law_block" st__law_block ["tape", "shape", "count", "depth", "many"] := ⟨f20, _, PySem.W.mg_of X G a20, fun_mk (st := st__law_block) l20 c20 k20, (fun_mk (st := st__law_block) l20 c20 k20).binds (ps := ["tape", "shape", "count", "depth", "many"]) fun _ _ _ _ _ _ us hl => match us, hl with | [_, _, _, _, _], _ => rfl⟩
  have S__law_teller : Src K mg "_law_teller" st__law_teller ["tape", "shape"] := ⟨f21, _, PySem.W.mg_of X G a21, fun_mk (st := st__law_teller) l21 c21 k21, (fun_mk (st := st__law_teller) l21 c21 k21).binds (ps := ["tape", "shape"]) fun _ _ _ _ _ _ us hl => match us, hl with | [_, _], _ => rfl⟩
  have S__law_voice : Src K mg "_law_voice" st__law_voice ["teller"] := ⟨f22, _, PySem.W.mg_of X G a22, fun_mk (st := st__law_voice) l22 c22 k22, (fun_mk (st := st__law_voice) l22 c22 k22).binds (ps := ["teller"]) fun _ _ _ _ _ _ us hl => match us, hl with | [_], _ => rfl⟩
  have S__law_holds : Src K mg "_law_holds" st__law_holds ["test", "counters", "last"] := ⟨f23, _, PySem.W.mg_of X G a23, fun_mk (st := st__law_holds) l23 c23 k23, (fun_mk (st := st__law_holds) l23 c23 k23).binds (ps := ["test", "counters", "last"]) fun _ _ _ _ _ _ us hl => match us, hl with | [_, _, _], _ => rfl⟩
  have S__law_counted : Src K mg "_law_counted" st__law_counted ["voice", "index", "number"] := ⟨f24, _, PySem.W.mg_of X G a24, fun_mk (st := st__law_counted) l24 c24 k24, (fun_mk (st := st__law_counted) l24 c24 k24).binds (ps := ["voice", "index", "number"]) fun _ _ _ _ _ _ us hl => match us, hl with | [_, _, _], _ => rfl⟩
  have S__law_inner : Src K mg "_law_inner" st__law_inner ["voice"] := ⟨f25, _, PySem.W.mg_of X G a25, fun_mk (st := st__law_inner) l25 c25 k25, (fun_mk (st := st__law_inner) l25 c25 k25).binds (ps := ["voice"]) fun _ _ _ _ _ _ us hl => match us, hl with | [_], _ => rfl⟩
  have S__law_choice : Src K mg "_law_choice" st__law_choice ["voice"] := ⟨f26, _, PySem.W.mg_of X G a26, fun_mk (st := st__law_choice) l26 c26 k26, (fun_mk (st := st__law_choice) l26 c26 k26).binds (ps := ["voice"]) fun _ _ _ _ _ _ us hl => match us, hl with | [_], _ => rfl⟩
  have S__law_hear : Src K mg "_law_hear" st__law_hear ["voice", "answer"] := ⟨f27, _, PySem.W.mg_of X G a27, fun_mk (st := st__law_hear) l27 c27 k27, (fun_mk (st := st__law_hear) l27 c27 k27).binds (ps := ["voice", "answer"]) fun _ _ _ _ _ _ us hl => match us, hl with | [_, _], _ => rfl⟩
  have S__law_is_due : Src K mg "_law_is_due" st__law_is_due ["found", "voice"] := ⟨f28, _, PySem.W.mg_of X G a28, fun_mk (st := st__law_is_due) l28 c28 k28, (fun_mk (st := st__law_is_due) l28 c28 k28).binds (ps := ["found", "voice"]) fun _ _ _ _ _ _ us hl => match us, hl with | [_, _], _ => rfl⟩
  have S__law_shows : Src K mg "_law_shows" st__law_shows ["state", "voice"] := ⟨f29, _, PySem.W.mg_of X G a29, fun_mk (st := st__law_shows) l29 c29 k29, (fun_mk (st := st__law_shows) l29 c29 k29).binds (ps := ["state", "voice"]) fun _ _ _ _ _ _ us hl => match us, hl with | [_, _], _ => rfl⟩
  have S__law_talk : Src K mg "_law_talk" st__law_talk ["tape", "teller", "turns"] := ⟨f30, _, PySem.W.mg_of X G a30, fun_mk (st := st__law_talk) l30 c30 k30, (fun_mk (st := st__law_talk) l30 c30 k30).binds (ps := ["tape", "teller", "turns"]) fun _ _ _ _ _ _ us hl => match us, hl with | [_, _, _], _ => rfl⟩
  have S__law_long : Src K mg "_law_long" st__law_long ["tape"] := ⟨f31, _, PySem.W.mg_of X G a31, fun_mk (st := st__law_long) l31 c31 k31, (fun_mk (st := st__law_long) l31 c31 k31).binds (ps := ["tape"]) fun _ _ _ _ _ _ us hl => match us, hl with | [_], _ => rfl⟩
  have FL := fun_mk (st := st_law) l32 c32 k32
  refine ⟨PySem.W.fnOf "law" "law" (defArgs st_law) (defBody st_law) (defScope st_law) .none kV32 dc32 pm32 an32 cd32 ct32, fun s v => .of_eq rfl, fun base _ _ => ?_⟩
  have C_is_integer := cal_is_integer (P := l.prog) (w := w) (base := base) S_is_integer T
  have C_is_count := cal_is_count S_is_count T C_is_integer
  have C_is_index := cal_is_index S_is_index T C_is_count
  have C_filled := cal_filled S_filled T C_is_index
  have C_first_state := cal_first_state (P := l.prog) (w := w) (base := base) S_first_state T
  have C_holds := cal_holds (P := l.prog) (w := w) (base := base) S_holds T 2
  have C_with_counter := cal_with_counter (P := l.prog) (w := w) (base := base) S_with_counter T
  have C_kept_worth := cal_kept_worth S_kept_worth T C_is_integer
  have C_inner_step := cal_inner_step S_inner_step T C_holds C_with_counter C_kept_worth
  have C_next_of := cal_next_of S_next_of T C_filled C_inner_step
  have C_told := cal_told (P := l.prog) (w := w) (base := base) S_told T
  have C__law_tape := cal__law_tape (P := l.prog) (w := w) (base := base) S__law_tape T
  have C__law_draw := cal__law_draw (P := l.prog) (w := w) (base := base) S__law_draw T
  have C__law_pick := cal__law_pick S__law_pick T C__law_draw
  have C__law_same := cal__law_same (P := l.prog) (w := w) (base := base) S__law_same T 3
  have C__law_operation := cal__law_operation S__law_operation T C__law_draw C__law_pick
  have C__law_shape := cal__law_shape S__law_shape T C__law_draw
  have C__law_test := cal__law_test S__law_test T C__law_draw C__law_pick 2
  have C__law_do_row := cal__law_do_row S__law_do_row T C__law_draw C__law_operation
  have C__law_block := cal__law_block S__law_block T C__law_draw C__law_pick C__law_test C__law_do_row 2
  have C__law_teller := cal__law_teller S__law_teller T C__law_draw C__law_block
  have C__law_long := cal__law_long S__law_long T C__law_draw
  have C__law_voice := cal__law_voice (P := l.prog) (w := w) (base := base) S__law_voice T
  have C__law_holds := cal__law_holds (P := l.prog) (w := w) (base := base) S__law_holds T
  have C__law_counted := cal__law_counted (P := l.prog) (w := w) (base := base) S__law_counted T
  have C__law_inner := cal__law_inner S__law_inner T C__law_holds C__law_counted
  have C__law_choice := cal__law_choice S__law_choice T C__law_inner
  have C__law_hear := cal__law_hear (P := l.prog) (w := w) (base := base) S__law_hear T
  have C__law_is_due := cal__law_is_due S__law_is_due T C__law_choice C__law_same
  have C__law_shows := cal__law_shows S__law_shows T C__law_same
  have C__law_talk := cal__law_talk S__law_talk T C__law_pick C_first_state C_next_of C_told C__law_voice C__law_shows C__law_is_due C__law_hear C__law_same
  exact ok_law FL T C__law_tape C__law_draw C__law_shape C__law_teller C__law_long C__law_talk
end
theorem walk {l : PySem.W.OpenLaw} {q : Program} {loose : List Str} {XP : (Str → Option Value) → Heap → Prop} {YP : World → Heap → Prop} {d : DefRec} {K : Params → PySem.W.Frag} (hn : l.most = some 63) (hdf : d.params.defaults = [])
    (hY : ∀ (w : World) (h : Heap), YP w h → (K w.params).In h)
    (F : ∀ (w : World) (mg : Str → Option Value) (fa : Addr) (h : Heap), (K w.params).In h → h.Ns mainGlobals mg → mg d.name = some (.ref fa) →
      ∃ fd : FuncData, (∀ (s : Shared) (u : Value), BindsTo s fd ⟨[u], []⟩ [("script", u)]) ∧ ∀ base : Heap, (K w.params).In base → base.Ns mainGlobals mg → FnOk l.prog w (K w.params) mg base CX0 10 fa fd ["script"] (sp_law (K w.params))) :
    PySem.W.WalkO q loose XP YP l.row.toRowW d [] (fun f vs => PySem.call f vs) :=
  L2.walk_of (n := 63) (k := 10) (x := "script") (CX := fun _ => CX0) (sp := fun w => sp_law (K w.params)) hn (by decide) hdf ⟨rfl, by decide, by decide⟩ hY F (fun _ _ a ns hl _ hS => ⟨a, ns, rfl, hS, hl, fun _ => rfl⟩) fun _ _ _ _ _ z => z
end K97
open PySem PySem.W PyProof.Rows
set_option maxRecDepth 100000 in
set_option maxHeartbeats 0 in
theorem PySem.Challenge.cw_gleanworld_k97_whole_tellers_step_by_ste_holds : PySem.Challenge.rw_gleanworld_k97_whole_tellers_step_by_ste.Holds := by
  w_on; o_law; k_head; (case hw => w_witness2)
  k_fill
  refine K97.walk (l := PySem.Challenge.rw_gleanworld_k97_whole_tellers_step_by_ste) rfl rfl (fun w h Y => PySem.W.kIn_of Y) ?F
  case F =>
    intro w mg fa h KX G hmg
    refine' K97.all_mk KX G hmg ?a1 ?l1 ?c1 ?k1 ?a2 ?l2 ?c2 ?k2 ?a3 ?l3 ?c3 ?k3 ?a4 ?l4 ?c4 ?k4 ?a5 ?l5 ?c5 ?k5 ?a6 ?l6 ?c6 ?k6 ?a7 ?l7 ?c7 ?k7 ?a8 ?l8 ?c8 ?k8 ?a9 ?l9 ?c9 ?k9 ?a10 ?l10 ?c10 ?k10 ?a11 ?l11 ?c11 ?k11 ?a12 ?l12 ?c12 ?k12 ?a13 ?l13 ?c13 ?k13 ?a14 ?l14 ?c14 ?k14 ?a15 ?l15 ?c15 ?k15 ?a16 ?l16 ?c16 ?k16 ?a17 ?l17 ?c17 ?k17 ?a18 ?l18 ?c18 ?k18 ?a19 ?l19 ?c19 ?k19 ?a20 ?l20 ?c20 ?k20 ?a21 ?l21 ?c21 ?k21 ?a22 ?l22 ?c22 ?k22 ?a23 ?l23 ?c23 ?k23 ?a24 ?l24 ?c24 ?k24 ?a25 ?l25 ?c25 ?k25 ?a26 ?l26 ?c26 ?k26 ?a27 ?l27 ?c27 ?k27 ?a28 ?l28 ?c28 ?k28 ?a29 ?l29 ?c29 ?k29 ?a30 ?l30 ?c30 ?k30 ?a31 ?l31 ?c31 ?k31 ?a32 ?l32 ?c32 ?k32 ?z_isinstance ?z_len ?z_all ?z_tuple ?z_str ?z_int ?z_bool ?z_abs ?z_list ?z_range ?v_LIMIT ?v_MOST_INNER ?v_COUNTER
    (case a1 => k_is); (case l1 => k_is); (case c1 => k_is); (case k1 => k_is)
    (case a2 => k_is); (case l2 => k_is); (case c2 => k_is); (case k2 => k_is)
    (case a3 => k_is); (case l3 => k_is); (case c3 => k_is); (case k3 => k_is)
    (case a4 => k_is); (case l4 => k_is); (case c4 => k_is); (case k4 => k_is)
    (case a5 => k_is); (case l5 => k_is); (case c5 => k_is); (case k5 => k_is)
    (case a6 => k_is); (case l6 => k_is); (case c6 => k_is); (case k6 => k_is)
    (case a7 => k_is); (case l7 => k_is); (case c7 => k_is); (case k7 => k_is)
    (case a8 => k_is); (case l8 => k_is); (case c8 => k_is); (case k8 => k_is)
    (case a9 => k_is); (case l9 => k_is); (case c9 => k_is); (case k9 => k_is)
    (case a10 => k_is); (case l10 => k_is); (case c10 => k_is); (case k10 => k_is)
    (case a11 => k_is); (case l11 => k_is); (case c11 => k_is); (case k11 => k_is)
    (case a12 => k_is); (case l12 => k_is); (case c12 => k_is); (case k12 => k_is)
    (case a13 => k_is); (case l13 => k_is); (case c13 => k_is); (case k13 => k_is)
    (case a14 => k_is); (case l14 => k_is); (case c14 => k_is); (case k14 => k_is)
    (case a15 => k_is); (case l15 => k_is); (case c15 => k_is); (case k15 => k_is)
    (case a16 => k_is); (case l16 => k_is); (case c16 => k_is); (case k16 => k_is)
    (case a17 => k_is); (case l17 => k_is); (case c17 => k_is); (case k17 => k_is)
    (case a18 => k_is); (case l18 => k_is); (case c18 => k_is); (case k18 => k_is)
    (case a19 => k_is); (case l19 => k_is); (case c19 => k_is); (case k19 => k_is)
    (case a20 => k_is); (case l20 => k_is); (case c20 => k_is); (case k20 => k_is)
    (case a21 => k_is); (case l21 => k_is); (case c21 => k_is); (case k21 => k_is)
    (case a22 => k_is); (case l22 => k_is); (case c22 => k_is); (case k22 => k_is)
    (case a23 => k_is); (case l23 => k_is); (case c23 => k_is); (case k23 => k_is)
    (case a24 => k_is); (case l24 => k_is); (case c24 => k_is); (case k24 => k_is)
    (case a25 => k_is); (case l25 => k_is); (case c25 => k_is); (case k25 => k_is)
    (case a26 => k_is); (case l26 => k_is); (case c26 => k_is); (case k26 => k_is)
    (case a27 => k_is); (case l27 => k_is); (case c27 => k_is); (case k27 => k_is)
    (case a28 => k_is); (case l28 => k_is); (case c28 => k_is); (case k28 => k_is)
    (case a29 => k_is); (case l29 => k_is); (case c29 => k_is); (case k29 => k_is)
    (case a30 => k_is); (case l30 => k_is); (case c30 => k_is); (case k30 => k_is)
    (case a31 => k_is); (case l31 => k_is); (case c31 => k_is); (case k31 => k_is)
    (case a32 => k_is); (case l32 => k_is); (case c32 => k_is); (case k32 => k_is)
    (case z_isinstance => k_is); (case z_len => k_is); (case z_all => k_is); (case z_tuple => k_is); (case z_str => k_is); (case z_int => k_is); (case z_bool => k_is); (case z_abs => k_is); (case z_list => k_is); (case z_range => k_is)
    (case v_LIMIT => k_is); (case v_MOST_INNER => k_is); (case v_COUNTER => k_is)

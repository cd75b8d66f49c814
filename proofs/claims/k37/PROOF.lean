import PyProof.Rows.All
import Wide.All
import OpenK.AllK
import Wide.FinOn
import HandS.ForMost
import HandS.ForExc
import HandS.Evl
import HandS.Walk
import HandS.Zip
import HandS.IsInst
import HandS.TupAny
import HandS.Steps
import HandS.Iter
import HandS.Text
import HandS.Comp
import HandS.ExcInit
import HandS.ExcField
import HandS.ExcBuiltin
import HandS.EndBits
import HandS.Small
import HandS.Flow
import KE.KDictPairs
import HandS.ListItems
import PyProof.TupleOfSeq
import PyProof.RulesMatchSeq
import PyProof.Rows.MatchSeqLen
import PyProof.EnumMake
import PyProof.Draws
import KE.GoesMore
import HandS.Deep
import KE.GoesZip
import HandS.Defaults
import HandS.More
import HandS.ExcOwn
import HandS.ForDict
import HandS.TupMul
import HandS.Strs
import HandS.Style
import HandS.DictComp
import HandS.MakeKwOnly
import HandS.SortInts
import PyProof.EqAt
import HandS.List
import HandS.TryMany
import HandS.TryOnly
import HandS.Conv
import PySem.Challenge.RW_gleanworld_k37_whole_builders_over_plain
set_option Elab.async false
set_option linter.all false
set_option maxRecDepth 100000
set_option maxHeartbeats 2000000
/-! Pd: immutable data over the abstract heap, and what expressions evaluate to as data. -/
namespace Pd
open PySem L2 Evl

mutual
/-- v is data d in H: tuples and lists are tracked there -/
inductive Im (H : Hp) : V → PyData → Prop
  | non : Im H .non .none
  | bl (b : Bool) : Im H (.bl b) (.bool b)
  | int (i : Int) : Im H (.int i) (.int i)
  | str (x : Str) : Im H (.str x) (.str x)
  | lst {a : Addr} {xs : List V} {ds : List PyData} : H a = some (.lst xs) → Ims H xs ds → Im H (.ref a) (.list ds)
  | tup {a : Addr} {xs : List V} {ds : List PyData} : H a = some (.tup xs) → Ims H xs ds → Im H (.ref a) (.tuple ds)
inductive Ims (H : Hp) : List V → List PyData → Prop
  | nil : Ims H [] []
  | cons {v : V} {vs : List V} {d : PyData} {ds : List PyData} : Im H v d → Ims H vs ds → Ims H (v :: vs) (d :: ds)
end

mutual
theorem Im.mono {H H' : Hp} (e : Ex H H') : ∀ {d : PyData} {v : V}, Im H v d → Im H' v d
  | .none, _, h => by cases h; exact .non
  | .bool _, _, h => by cases h; exact .bl _
  | .int _, _, h => by cases h; exact .int _
  | .str _, _, h => by cases h; exact .str _
  | .list ds, _, h => by cases h with | lst h1 h2 => exact .lst (e _ _ h1) (Ims.mono e h2)
  | .tuple ds, _, h => by cases h with | tup h1 h2 => exact .tup (e _ _ h1) (Ims.mono e h2)
  | .dict _, _, h => by cases h
theorem Ims.mono {H H' : Hp} (e : Ex H H') : ∀ {ds : List PyData} {vs : List V}, Ims H vs ds → Ims H' vs ds
  | [], _, h => by cases h; exact .nil
  | d :: ds, _, h => by cases h with | cons h1 h2 => exact .cons (Im.mono e h1) (Ims.mono e h2)
end

mutual
/-- no list within -/
def still : PyData → Bool
  | .list _ => false
  | .dict _ => false
  | .tuple ds => stills ds
  | _ => true
def stills : List PyData → Bool
  | [] => true
  | d :: ds => still d && stills ds
end
/-- the tuples stay -/
def Tx (H H' : Hp) : Prop := ∀ a xs, H a = some (.tup xs) → H' a = some (.tup xs)
theorem Tx.refl (H : Hp) : Tx H H := fun _ _ h => h
theorem Tx.trans {H H1 H2 : Hp} (a : Tx H H1) (b : Tx H1 H2) : Tx H H2 := fun x o h => b x o (a x o h)
theorem Tx.of {H H' : Hp} (e : Ex H H') : Tx H H' := fun a xs h => e a _ h
mutual
theorem Im.tx {H H' : Hp} (e : Tx H H') : ∀ {d : PyData} {v : V}, still d = true → Im H v d → Im H' v d
  | .none, _, _, h => by cases h; exact .non
  | .bool _, _, _, h => by cases h; exact .bl _
  | .int _, _, _, h => by cases h; exact .int _
  | .str _, _, _, h => by cases h; exact .str _
  | .list ds, _, s, h => by cases s
  | .tuple ds, _, s, h => by cases h with | tup h1 h2 => exact .tup (e _ _ h1) (Ims.tx e s h2)
  | .dict _, _, _, h => by cases h
theorem Ims.tx {H H' : Hp} (e : Tx H H') : ∀ {ds : List PyData} {vs : List V}, stills ds = true → Ims H vs ds → Ims H' vs ds
  | [], _, _, h => by cases h; exact .nil
  | d :: ds, _, s, h => by
    cases h with
    | cons h1 h2 =>
      have s' : still d = true ∧ stills ds = true := Bool.and_eq_true_iff.mp s
      exact .cons (Im.tx e s'.1 h1) (Ims.tx e s'.2 h2)
end

theorem Ims.length {H : Hp} : ∀ {ds : List PyData} {vs : List V}, Ims H vs ds → vs.length = ds.length
  | [], _, h => by cases h; rfl
  | d :: ds, _, h => by cases h with | cons h1 h2 => simp [Ims.length h2]
theorem Ims.get {H : Hp} : ∀ {ds : List PyData} {vs : List V} {i : Nat} {v : V}, Ims H vs ds → vs[i]? = some v → ∃ d, ds[i]? = some d ∧ Im H v d
  | [], _, _, _, h, e => by cases h; simp at e
  | d :: ds, _, 0, v, h, e => by cases h with | cons h1 h2 => simp at e; subst e; exact ⟨d, rfl, h1⟩
  | d :: ds, _, i + 1, v, h, e => by cases h with | cons h1 h2 => exact Ims.get (i := i) h2 (by simpa using e)
theorem Ims.getD {H : Hp} : ∀ {ds : List PyData} {vs : List V} {i : Nat} {d : PyData}, Ims H vs ds → ds[i]? = some d → ∃ v, vs[i]? = some v ∧ Im H v d
  | [], _, _, _, h, e => by simp at e
  | d :: ds, _, 0, v, h, e => by cases h with | cons h1 h2 => simp at e; subst e; exact ⟨_, rfl, h1⟩
  | d :: ds, _, i + 1, v, h, e => by cases h with | cons h1 h2 => exact Ims.getD (i := i) h2 (by simpa using e)
theorem Ims.append {H : Hp} : ∀ {ds es : List PyData} {vs ws : List V}, Ims H vs ds → Ims H ws es → Ims H (vs ++ ws) (ds ++ es)
  | [], _, _, _, h, k => by cases h; exact k
  | d :: ds, _, _, _, h, k => by cases h with | cons h1 h2 => exact .cons h1 (Ims.append h2 k)
theorem Ims.take {H : Hp} : ∀ {ds : List PyData} {vs : List V} (n : Nat), Ims H vs ds → Ims H (vs.take n) (ds.take n)
  | _, _, 0, _ => .nil
  | [], _, n + 1, h => by cases h; exact .nil
  | d :: ds, _, n + 1, h => by cases h with | cons h1 h2 => exact .cons h1 (Ims.take n h2)
theorem Ims.drop {H : Hp} : ∀ {ds : List PyData} {vs : List V} (n : Nat), Ims H vs ds → Ims H (vs.drop n) (ds.drop n)
  | _, _, 0, h => h
  | [], _, n + 1, h => by cases h; exact .nil
  | d :: ds, _, n + 1, h => by cases h with | cons h1 h2 => exact Ims.drop n h2

/-- inversions -/
theorem Im.s {H : Hp} {v : V} {x : Str} (h : Im H v (.str x)) : v = .str x := by cases h; rfl
theorem Im.i {H : Hp} {v : V} {x : Int} (h : Im H v (.int x)) : v = .int x := by cases h; rfl
theorem Im.b {H : Hp} {v : V} {x : Bool} (h : Im H v (.bool x)) : v = .bl x := by cases h; rfl
theorem Im.n {H : Hp} {v : V} (h : Im H v .none) : v = .non := by cases h; rfl
theorem Im.t {H : Hp} {v : V} {ds : List PyData} (h : Im H v (.tuple ds)) : ∃ a xs, v = .ref a ∧ H a = some (.tup xs) ∧ Ims H xs ds := by cases h with | tup h1 h2 => exact ⟨_, _, rfl, h1, h2⟩
theorem Im.l {H : Hp} {v : V} {ds : List PyData} (h : Im H v (.list ds)) : ∃ a xs, v = .ref a ∧ H a = some (.lst xs) ∧ Ims H xs ds := by cases h with | lst h1 h2 => exact ⟨_, _, rfl, h1, h2⟩
theorem Ims.strs {H : Hp} : ∀ {ss : List Str} {vs : List V}, Ims H vs (ss.map PyData.str) → vs = ss.map V.str
  | [], _, h => by cases h; rfl
  | s :: ss, _, h => by cases h with | cons h1 h2 => rw [h1.s, Ims.strs h2]; rfl
theorem Ims.bls {H : Hp} : ∀ {ss : List Bool} {vs : List V}, Ims H vs (ss.map PyData.bool) → vs = ss.map V.bl
  | [], _, h => by cases h; rfl
  | s :: ss, _, h => by cases h with | cons h1 h2 => rw [h1.b, Ims.bls h2]; rfl
theorem Ims.ofStrs {H : Hp} : ∀ ss : List Str, Ims H (ss.map V.str) (ss.map PyData.str)
  | [] => .nil
  | s :: ss => .cons (.str s) (Ims.ofStrs ss)

mutual
theorem Im.dp {K : PySem.W.Frag} {H : Hp} : ∀ {d : PyData} {v : V}, Im H v d → Dp K H v d
  | .none, _, h => by cases h; exact .non
  | .bool _, _, h => by cases h; exact .bl _
  | .int _, _, h => by cases h; exact .int _
  | .str _, _, h => by cases h; exact .str _
  | .list ds, _, h => by cases h with | lst h1 h2 => exact .lst (SqL.of h1) (Ims.dp h2)
  | .tuple ds, _, h => by cases h with | tup h1 h2 => exact .tup (SqT.of h1) (Ims.dp h2)
  | .dict _, _, h => by cases h
theorem Ims.dp {K : PySem.W.Frag} {H : Hp} : ∀ {ds : List PyData} {vs : List V}, Ims H vs ds → DpAll K H vs ds
  | [], _, h => by cases h; exact .nil
  | d :: ds, _, h => by cases h with | cons h1 h2 => exact .cons (Im.dp h1) (Ims.dp h2)
end

/-! ### what evaluates to what data -/
def EvD (te : TE) (σ : L2.St) (H : Hp) (d : PyData) : Prop := ∀ H1, Ex H H1 → ∀ Q : VK, (∀ v H2, Ex H1 H2 → Im H2 v d → Q v H2) → te σ H1 Q
/-- a new list -/
def EvN (te : TE) (σ : L2.St) (H : Hp) (ds : List PyData) : Prop := ∀ H1, Ex H H1 → ∀ Q : VK, (∀ p xs H2, H1 p = none → Ex H1 H2 → H2 p = some (.lst xs) → Ims H2 xs ds → Q (.ref p) H2) → te σ H1 Q
def EvDs (ta : TA) (σ : L2.St) (H : Hp) (ds : List PyData) : Prop := ∀ H1, Ex H H1 → ∀ Q : List V → Hp → Prop, (∀ vs H2, Ex H1 H2 → Ims H2 vs ds → Q vs H2) → ta σ H1 Q

section
variable {K : PySem.W.Frag} {σ : L2.St} {H H' : Hp} {ta tb te tx tl : TE} {t u : TT} {x y z v : V} {d d' e' : PyData} {ds es : List PyData}
theorem EvD.mono (e : Ex H H') (h : EvD te σ H d) : EvD te σ H' d := fun H1 a Q q => h H1 (e.trans a) Q q
theorem EvN.mono (e : Ex H H') (h : EvN te σ H ds) : EvN te σ H' ds := fun H1 a Q q => h H1 (e.trans a) Q q
theorem EvDs.mono {ta : TA} (e : Ex H H') (h : EvDs ta σ H ds) : EvDs ta σ H' ds := fun H1 a Q q => h H1 (e.trans a) Q q
theorem EvN.toD (h : EvN te σ H ds) : EvD te σ H (.list ds) := fun H1 a Q q => h H1 a Q fun p xs H2 _ e1 e2 e3 => q _ H2 e1 (.lst e2 e3)
theorem EvN.is {es : List PyData} (h : EvN te σ H ds) (e : ds = es) : EvN te σ H es := e ▸ h
theorem EvD.is (h : EvD te σ H d) (e : d = d') : EvD te σ H d' := e ▸ h
theorem ed_var {i : Nat} (h : σ[i]? = some (some v)) (hd : Im H v d) : EvD (tVar i) σ H d := fun H1 e _ q => ⟨v, h, q v H1 (Ex.refl H1) (hd.mono e)⟩
theorem ed_c (h : Im H v d) : EvD (tC v) σ H d := fun H1 e _ q => q v H1 (Ex.refl H1) (h.mono e)
theorem ed_i (i : Int) : EvD (tC (.int i)) σ H (.int i) := ed_c (.int i)
theorem ed_s (i : Str) : EvD (tC (.str i)) σ H (.str i) := ed_c (.str i)
theorem ed_b (i : Bool) : EvD (tC (.bl i)) σ H (.bool i) := ed_c (.bl i)
theorem ed_n : EvD (tC .non) σ H .none := ed_c .non
theorem ea0 : EvDs tNil σ H [] := fun H1 _ _ q => q _ H1 (Ex.refl H1) .nil
theorem ea1 {tr : TA} (h : EvD ta σ H d) (hr : EvDs tr σ H ds) : EvDs (tCons ta tr) σ H (d :: ds) := fun H1 e _ q =>
  h H1 e _ fun v H2 e2 i2 => hr H2 (e.trans e2) _ fun vs H3 e3 i3 => q _ H3 (e2.trans e3) (.cons (i2.mono e3) i3)
theorem ed_tup {ta : TA} (h : EvDs ta σ H ds) (hl : ds.length ≤ 100000) : EvD (tTup ta) σ H (.tuple ds) := fun H1 e _ q =>
  h H1 e _ fun vs H2 e2 i2 => ⟨sz_of (by rw [i2.length]; exact hl), fun p hp => q _ _ (e2.trans (Ex.new hp)) (.tup upd_same (i2.mono (Ex.new hp)))⟩
theorem en_lst {ta : TA} (h : EvDs ta σ H ds) (hl : ds.length ≤ 100000) : EvN (tLst ta) σ H ds := fun H1 e _ q =>
  h H1 e _ fun vs H2 e2 i2 => ⟨sz_of (by rw [i2.length]; exact hl), fun p hp => q _ _ _ (fresh_back e2 hp) (e2.trans (Ex.new hp)) upd_same (i2.mono (Ex.new hp))⟩
/-- an operator on two values -/
theorem ed_op {r : R2} (ha : EvD ta σ H d) (hb : EvD tb σ H e') (hr : ∀ x y H1, Ex H H1 → Im H1 x d → Im H1 y e' → ∀ Q : VK, (∀ v H2, Ex H1 H2 → Im H2 v d' → Q v H2) → r x y H1 Q) : EvD (tOp r ta tb) σ H d' := fun H1 e Q q =>
  ha H1 e _ fun x H2 e2 i2 => hb H2 (e.trans e2) _ fun y H3 e3 i3 => hr x y H3 ((e.trans e2).trans e3) (i2.mono e3) i3 Q fun v H4 e4 i4 => q v H4 ((e2.trans e3).trans e4) i4
theorem en_op {r : R2} (ha : EvD ta σ H d) (hb : EvD tb σ H e') (hr : ∀ x y H1, Ex H H1 → Im H1 x d → Im H1 y e' → ∀ Q : VK, (∀ p xs H2, H1 p = none → Ex H1 H2 → H2 p = some (.lst xs) → Ims H2 xs ds → Q (.ref p) H2) → r x y H1 Q) : EvN (tOp r ta tb) σ H ds := fun H1 e Q q =>
  ha H1 e _ fun x H2 e2 i2 => hb H2 (e.trans e2) _ fun y H3 e3 i3 => hr x y H3 ((e.trans e2).trans e3) (i2.mono e3) i3 Q fun p xs H4 n4 e4 i4 i5 => q p xs H4 (fresh_back (e2.trans e3) n4) ((e2.trans e3).trans e4) i4 i5
/-- ints -/
theorem ed_I0 {g : Int → Int → Int} {i j : Int} (ha : EvD ta σ H (.int i)) (hb : EvD tb σ H (.int j)) : EvD (tOp (rI0 fun i j => .int (g i j)) ta tb) σ H (.int (g i j)) :=
  ed_op ha hb fun x y H1 e hx hy Q q => ⟨i, j, hx.i, hy.i, q _ H1 (Ex.refl H1) (.int _)⟩
theorem ed_B0 {g : Int → Int → Bool} {i j : Int} (ha : EvD ta σ H (.int i)) (hb : EvD tb σ H (.int j)) : EvD (tOp (rI0 fun i j => .bl (g i j)) ta tb) σ H (.bool (g i j)) :=
  ed_op ha hb fun x y H1 e hx hy Q q => ⟨i, j, hx.i, hy.i, q _ H1 (Ex.refl H1) (.bl _)⟩
theorem ed_I {C : Int → Int → Prop} {g : Int → Int → Int} {i j : Int} (ha : EvD ta σ H (.int i)) (hb : EvD tb σ H (.int j)) (hc : C i j) : EvD (tOp (rI C fun i j => .int (g i j)) ta tb) σ H (.int (g i j)) :=
  ed_op ha hb fun x y H1 e hx hy Q q => ⟨i, j, hx.i, hy.i, hc, q _ H1 (Ex.refl H1) (.int _)⟩
/-- == of two texts, two ints -/
theorem ed_eqS {a b : Str} (ha : EvD ta σ H (.str a)) (hb : EvD tb σ H (.str b)) : EvD (tOp rEq ta tb) σ H (.bool (decide (a = b))) :=
  ed_op ha hb fun x y H1 e hx hy Q q => by
    rw [hx.s, hy.s]
    refine ⟨rfl, ?_⟩
    have h := q _ H1 (Ex.refl H1) (.bl (decide (a = b)))
    have e2 : decide (V.str a = V.str b) = decide (a = b) := by by_cases c : a = b <;> simp [c]
    rw [e2]; exact h
theorem ed_neS {a b : Str} (ha : EvD ta σ H (.str a)) (hb : EvD tb σ H (.str b)) : EvD (tOp rNe ta tb) σ H (.bool (!decide (a = b))) :=
  ed_op ha hb fun x y H1 e hx hy Q q => by
    rw [hx.s, hy.s]
    refine ⟨rfl, ?_⟩
    have h := q _ H1 (Ex.refl H1) (.bl (!decide (a = b)))
    have e2 : decide (V.str a = V.str b) = decide (a = b) := by by_cases c : a = b <;> simp [c]
    rw [e2]; exact h
theorem ed_eqI {a b : Int} (ha : EvD ta σ H (.int a)) (hb : EvD tb σ H (.int b)) : EvD (tOp rEq ta tb) σ H (.bool (decide (a = b))) :=
  ed_op ha hb fun x y H1 e hx hy Q q => by
    rw [hx.i, hy.i]
    refine ⟨rfl, ?_⟩
    have h := q _ H1 (Ex.refl H1) (.bl (decide (a = b)))
    have e2 : decide (V.int a = V.int b) = decide (a = b) := by by_cases c : a = b <;> simp [c]
    rw [e2]; exact h
theorem ed_neI {a b : Int} (ha : EvD ta σ H (.int a)) (hb : EvD tb σ H (.int b)) : EvD (tOp rNe ta tb) σ H (.bool (!decide (a = b))) :=
  ed_op ha hb fun x y H1 e hx hy Q q => by
    rw [hx.i, hy.i]
    refine ⟨rfl, ?_⟩
    have h := q _ H1 (Ex.refl H1) (.bl (!decide (a = b)))
    have e2 : decide (V.int a = V.int b) = decide (a = b) := by by_cases c : a = b <;> simp [c]
    rw [e2]; exact h
theorem ed_neB {a b : Bool} (ha : EvD ta σ H (.bool a)) (hb : EvD tb σ H (.bool b)) : EvD (tOp rNe ta tb) σ H (.bool (!decide (a = b))) :=
  ed_op ha hb fun x y H1 e hx hy Q q => by
    rw [hx.b, hy.b]
    refine ⟨rfl, ?_⟩
    have h := q _ H1 (Ex.refl H1) (.bl (!decide (a = b)))
    have e2 : decide (V.bl a = V.bl b) = decide (a = b) := by by_cases c : a = b <;> simp [c]
    rw [e2]; exact h
/-- == of data -/
theorem ed_eqD {d e' : PyData} (ha : EvD ta σ H d) (hb : EvD tb σ H e') (s1 : SeqAt.shaped d = true) (s2 : SeqAt.shaped e' = true) : EvD (tOp (rEqD K) ta tb) σ H (.bool (PyData.eqv d e')) :=
  ed_op ha hb fun x y H1 e hx hy Q q => ⟨d, e', hx.dp, hy.dp, s1, s2, q _ H1 (Ex.refl H1) (.bl _)⟩
theorem ed_neD {d e' : PyData} (ha : EvD ta σ H d) (hb : EvD tb σ H e') (s1 : SeqAt.shaped d = true) (s2 : SeqAt.shaped e' = true) : EvD (tOp (rNeD K) ta tb) σ H (.bool (!PyData.eqv d e')) :=
  ed_op ha hb fun x y H1 e hx hy Q q => ⟨d, e', hx.dp, hy.dp, s1, s2, q _ H1 (Ex.refl H1) (.bl _)⟩
/-- is None -/
def rIsN' : R2 := fun x y H Q => y = .non ∧ Q (.bl (decide (x = .non))) H
theorem ed_isN (ha : EvD ta σ H d) : EvD (tOp (fun x y H Q => y = .non ∧ Q (.bl (decide (x = .non))) H) ta (tC .non)) σ H (.bool (match d with | .none => true | _ => false)) :=
  ed_op ha ed_n fun x y H1 e hx hy Q q => ⟨hy.n, by
    cases hx <;> exact q _ H1 (Ex.refl H1) (.bl _)⟩
theorem ed_notN (ha : EvD ta σ H d) : EvD (tOp (fun x y H Q => y = .non ∧ Q (.bl (!decide (x = .non))) H) ta (tC .non)) σ H (.bool (match d with | .none => false | _ => true)) :=
  ed_op ha ed_n fun x y H1 e hx hy Q q => ⟨hy.n, by
    cases hx <;> exact q _ H1 (Ex.refl H1) (.bl _)⟩
/-- texts: <, >=, + -/
theorem ed_ltS {a b : Str} (ha : EvD ta σ H (.str a)) (hb : EvD tb σ H (.str b)) : EvD (tOp (fun x y H Q => ∃ i j, x = .str i ∧ y = .str j ∧ Q (.bl (decide (i.cps.toList < j.cps.toList))) H) ta tb) σ H (.bool (decide (a.cps.toList < b.cps.toList))) :=
  ed_op ha hb fun x y H1 e hx hy Q q => ⟨a, b, hx.s, hy.s, q _ H1 (Ex.refl H1) (.bl _)⟩
theorem ed_gtS {a b : Str} (ha : EvD ta σ H (.str a)) (hb : EvD tb σ H (.str b)) : EvD (tOp (fun x y H Q => ∃ i j, x = .str i ∧ y = .str j ∧ Q (.bl (decide (j.cps.toList < i.cps.toList))) H) ta tb) σ H (.bool (decide (b.cps.toList < a.cps.toList))) :=
  ed_op ha hb fun x y H1 e hx hy Q q => ⟨a, b, hx.s, hy.s, q _ H1 (Ex.refl H1) (.bl _)⟩
theorem ed_geS {a b : Str} (ha : EvD ta σ H (.str a)) (hb : EvD tb σ H (.str b)) : EvD (tOp (fun x y H Q => ∃ i j, x = .str i ∧ y = .str j ∧ Q (.bl (!decide (i.cps.toList < j.cps.toList))) H) ta tb) σ H (.bool (!decide (a.cps.toList < b.cps.toList))) :=
  ed_op ha hb fun x y H1 e hx hy Q q => ⟨a, b, hx.s, hy.s, q _ H1 (Ex.refl H1) (.bl _)⟩
theorem ed_addS {a b : Str} (ha : EvD ta σ H (.str a)) (hb : EvD tb σ H (.str b)) (hz : a.length + b.length ≤ 100000) : EvD (tOp (fun x y H Q => ∃ i j, x = .str i ∧ y = .str j ∧ i.length + j.length ≤ sizeLine ∧ Q (.str (i ++ j)) H) ta tb) σ H (.str (a ++ b)) :=
  ed_op ha hb fun x y H1 e hx hy Q q => ⟨a, b, hx.s, hy.s, sz_of hz, q _ H1 (Ex.refl H1) (.str _)⟩
/-- one sign in a text -/
theorem ed_inSign {c : Nat} {b : Str} (ha : EvD ta σ H (.str ⟨#[c]⟩)) (hb : EvD tb σ H (.str b)) : EvD (tOp (fun x y H Q => ∃ (c : Nat) (z : Str), x = .str ⟨#[c]⟩ ∧ y = .str z ∧ Q (.bl (decide (c ∈ z.cps.toList))) H) ta tb) σ H (.bool (decide (c ∈ b.cps.toList))) :=
  ed_op ha hb fun x y H1 e hx hy Q q => ⟨c, b, hx.s, hy.s, q _ H1 (Ex.refl H1) (.bl _)⟩
/-- a text in a tuple or list of texts -/
theorem inV_strs (a : Str) : ∀ ss : List Str, inV (.str a) (ss.map V.str) = decide (a ∈ ss)
  | [] => rfl
  | s :: ss => by
    have ih := inV_strs a ss
    unfold inV at ih ⊢
    rw [List.map_cons, List.any_cons, ih]
    by_cases c : a = s
    · subst c; simp [eqV]
    · have c' : ¬ s = a := fun z => c z.symm
      simp [eqV, c, c']
theorem flat_strs : ∀ ss : List Str, (ss.map V.str).all flatV = true
  | [] => rfl
  | s :: ss => by rw [List.map_cons, List.all_cons, flat_strs ss]; rfl
theorem ed_inT {a : Str} {ss : List Str} (ha : EvD ta σ H (.str a)) (hb : EvD tb σ H (.tuple (ss.map .str))) : EvD (tOp (rIn K false) ta tb) σ H (.bool (decide (a ∈ ss))) :=
  ed_op ha hb fun x y H1 e hx hy Q q => by
    obtain ⟨p, xs, rfl, h1, h2⟩ := hy.t
    have ex := h2.strs; subst ex; rw [hx.s]
    refine ⟨p, _, rfl, .inr (SqT.of h1), rfl, flat_strs ss, ?_⟩
    have h := q _ H1 (Ex.refl H1) (.bl (decide (a ∈ ss)))
    show Q (.bl (inV (.str a) (ss.map V.str))) H1
    rw [inV_strs]; exact h
theorem ed_niT {a : Str} {ss : List Str} (ha : EvD ta σ H (.str a)) (hb : EvD tb σ H (.tuple (ss.map .str))) : EvD (tOp (rIn K true) ta tb) σ H (.bool (!decide (a ∈ ss))) :=
  ed_op ha hb fun x y H1 e hx hy Q q => by
    obtain ⟨p, xs, rfl, h1, h2⟩ := hy.t
    have ex := h2.strs; subst ex; rw [hx.s]
    refine ⟨p, _, rfl, .inr (SqT.of h1), rfl, flat_strs ss, ?_⟩
    have h := q _ H1 (Ex.refl H1) (.bl (!decide (a ∈ ss)))
    show Q (.bl (!inV (.str a) (ss.map V.str))) H1
    rw [inV_strs]; exact h
theorem ed_inL {a : Str} {ss : List Str} (ha : EvD ta σ H (.str a)) (hb : EvD tb σ H (.list (ss.map .str))) : EvD (tOp (rIn K false) ta tb) σ H (.bool (decide (a ∈ ss))) :=
  ed_op ha hb fun x y H1 e hx hy Q q => by
    obtain ⟨p, xs, rfl, h1, h2⟩ := hy.l
    have ex := h2.strs; subst ex; rw [hx.s]
    refine ⟨p, _, rfl, .inl (SqL.of h1), rfl, flat_strs ss, ?_⟩
    have h := q _ H1 (Ex.refl H1) (.bl (decide (a ∈ ss)))
    show Q (.bl (inV (.str a) (ss.map V.str))) H1
    rw [inV_strs]; exact h
/-- subscripts -/
theorem atI_im {xs : List V} {i : Int} (h : Ims H xs ds) (ha : atI ds i = some d) : ∃ v, atI xs i = some v ∧ Im H v d := by
  unfold atI at ha ⊢
  rw [h.length]
  cases e : ixN ds.length i with
  | none => rw [e] at ha; cases ha
  | some j =>
    rw [e] at ha
    exact h.getD ha
theorem ed_ixT {i : Int} (ha : EvD ta σ H (.tuple ds)) (hb : EvD tb σ H (.int i)) (hi : atI ds i = some d) : EvD (tOp (rIxT K) ta tb) σ H d :=
  ed_op ha hb fun x y H1 e hx hy Q q => by
    obtain ⟨p, xs, rfl, h1, h2⟩ := hx.t
    obtain ⟨v, hv, iv⟩ := atI_im h2 hi
    exact ⟨p, xs, i, v, rfl, hy.i, SqT.of h1, hv, q _ H1 (Ex.refl H1) iv⟩
theorem ed_ixL {i : Int} (ha : EvD ta σ H (.list ds)) (hb : EvD tb σ H (.int i)) (hi : atI ds i = some d) : EvD (tOp (rIxL K) ta tb) σ H d :=
  ed_op ha hb fun x y H1 e hx hy Q q => by
    obtain ⟨p, xs, rfl, h1, h2⟩ := hx.l
    obtain ⟨v, hv, iv⟩ := atI_im h2 hi
    exact ⟨p, xs, i, v, rfl, hy.i, SqL.of h1, hv, q _ H1 (Ex.refl H1) iv⟩
/-- list + list, tuple + tuple -/
theorem en_cat (ha : EvD ta σ H (.list ds)) (hb : EvD tb σ H (.list es)) (hz : ds.length + es.length ≤ 100000) : EvN (tOp rCat ta tb) σ H (ds ++ es) :=
  en_op ha hb fun x y H1 e hx hy Q q => by
    obtain ⟨p, xs, rfl, h1, h2⟩ := hx.l
    obtain ⟨p', xs', rfl, h1', h2'⟩ := hy.l
    refine ⟨p, p', xs, xs', rfl, rfl, h1, h1', sz_of (by rw [h2.length, h2'.length]; exact hz), fun r hr => q r _ _ hr (Ex.new hr) upd_same ((h2.append h2').mono (Ex.new hr))⟩
theorem ed_catA (ha : EvD ta σ H (.tuple ds)) (hb : EvD tb σ H (.tuple es)) (hz : ds.length + es.length ≤ 100000) : EvD (tOp (rCatA K) ta tb) σ H (.tuple (ds ++ es)) :=
  ed_op ha hb fun x y H1 e hx hy Q q => by
    obtain ⟨p, xs, rfl, h1, h2⟩ := hx.t
    obtain ⟨p', xs', rfl, h1', h2'⟩ := hy.t
    refine ⟨p, p', xs, xs', rfl, rfl, SqT.of h1, SqT.of h1', sz_of (by rw [h2.length, h2'.length]; exact hz), fun z => ?_, fun _ z => ?_, fun _ _ r hr => ?_⟩
    · subst z; cases h2; exact q _ H1 (Ex.refl H1) (.tup h1' h2')
    · subst z; cases h2'; rw [List.append_nil] at q; exact q _ H1 (Ex.refl H1) (.tup h1 h2)
    · exact q _ _ (Ex.new hr) (.tup upd_same ((h2.append h2').mono (Ex.new hr)))
/-- slices -/
def cutD (ds : List PyData) (lo hi : Option Int) : List PyData := (ds.drop (HT.sIx ds.length 0 lo)).take (HT.sIx ds.length ds.length hi - HT.sIx ds.length 0 lo)
theorem Ims.cut {xs : List V} (h : Ims H xs ds) (lo hi : Option Int) : Ims H (cutV xs lo hi) (cutD ds lo hi) := by
  unfold cutV cutD
  rw [h.length]
  exact (h.drop _).take _
theorem en_slL {tl th : TO} {lo hi : Option Int} (h : EvD te σ H (.list ds)) (h1 : EvO tl σ H lo) (h2 : EvO th σ H hi) : EvN (tSl (rSlL K) te tl th) σ H (cutD ds lo hi) := fun H1 e Q q =>
  h H1 e _ fun v H2 e2 i2 => h1 H2 (e.trans e2) _ fun H3 e3 => h2 H3 ((e.trans e2).trans e3) _ fun H4 e4 => by
    obtain ⟨p, xs, rfl, g1, g2⟩ := ((i2.mono e3).mono e4).l
    exact ⟨p, xs, rfl, SqL.of g1, fun r hr => q r _ _ (fresh_back ((e2.trans e3).trans e4) hr) (((e2.trans e3).trans e4).trans (Ex.new hr)) upd_same ((g2.cut lo hi).mono (Ex.new hr))⟩
theorem sIx_whole {n : Nat} {lo hi : Option Int} (h : HT.sIx n 0 lo = 0 ∧ HT.sIx n n hi = n) (l : List PyData) (hl : l.length = n) : cutD l lo hi = l := by
  subst hl
  unfold cutD
  rw [h.1, h.2, List.drop_zero, Nat.sub_zero, List.take_length]
theorem ed_slA {tl th : TO} {lo hi : Option Int} (h : EvD te σ H (.tuple ds)) (h1 : EvO tl σ H lo) (h2 : EvO th σ H hi) : EvD (tSl (rSlA K) te tl th) σ H (.tuple (cutD ds lo hi)) := fun H1 e Q q =>
  h H1 e _ fun v H2 e2 i2 => h1 H2 (e.trans e2) _ fun H3 e3 => h2 H3 ((e.trans e2).trans e3) _ fun H4 e4 => by
    obtain ⟨p, xs, rfl, g1, g2⟩ := ((i2.mono e3).mono e4).t
    refine ⟨p, xs, rfl, SqT.of g1, fun z => ?_, fun _ r hr => q _ _ (((e2.trans e3).trans e4).trans (Ex.new hr)) (.tup upd_same ((g2.cut lo hi).mono (Ex.new hr)))⟩
    rw [g2.length] at z
    rw [sIx_whole z ds rfl] at q
    exact q _ H4 ((e2.trans e3).trans e4) (.tup g1 g2)
theorem ed_slS {tl th : TO} {a : Str} {lo hi : Option Int} (h : EvD te σ H (.str a)) (hz : a.length ≤ 100000) (h1 : EvO tl σ H lo) (h2 : EvO th σ H hi) : EvD (tSl rSlS te tl th) σ H (.str (cutS a lo hi)) := fun H1 e Q q =>
  h H1 e _ fun v H2 e2 i2 => h1 H2 (e.trans e2) _ fun H3 e3 => h2 H3 ((e.trans e2).trans e3) _ fun H4 e4 =>
    ⟨a, i2.s, sz_of hz, q _ H4 ((e2.trans e3).trans e4) (.str _)⟩
theorem eo_i {i : Int} (h : EvD te σ H (.int i)) : EvO (tPart te) σ H (some i) := fun H1 e _ q => h H1 e _ fun v H2 e2 iv => ⟨i, iv.i, q H2 e2⟩
/-- tests and truth values -/
theorem et_D {b : Bool} (h : EvD te σ H (.bool b)) : EvT (tTest te) σ H b := fun H1 e _ q => h H1 e _ fun v H2 e2 iv => ⟨b, iv.b, q H2 e2⟩
theorem et_DB {b : Bool} (h : EvD te σ H (.bool b)) : EvT (tB te) σ H b := fun H1 e _ q => h H1 e _ fun v H2 e2 iv => ⟨b, iv.b, q H2 e2⟩
theorem EvD.ev {b : Bool} (h : EvD te σ H (.bool b)) : Ev te σ H (.bl b) := fun H1 e _ q => h H1 e _ fun v H2 e2 iv => by rw [iv.b]; exact q H2 e2
theorem EvD.evI {b : Int} (h : EvD te σ H (.int b)) : Ev te σ H (.int b) := fun H1 e _ q => h H1 e _ fun v H2 e2 iv => by rw [iv.i]; exact q H2 e2
theorem EvD.evS {b : Str} (h : EvD te σ H (.str b)) : Ev te σ H (.str b) := fun H1 e _ q => h H1 e _ fun v H2 e2 iv => by rw [iv.s]; exact q H2 e2
theorem EvD.of_ev (h : Ev te σ H v) (iv : Im H v d) : EvD te σ H d := fun H1 e Q q => h H1 e Q fun H2 e2 => q v H2 e2 (iv.mono (e.trans e2))
theorem ed_and {a b : Bool} (h1 : EvD ta σ H (.bool a)) (h2 : a = true → EvD tb σ H (.bool b)) : EvD (tAndV ta tb) σ H (.bool (a && b)) := fun H1 e Q q => h1 H1 e _ fun v H2 e2 iv => ⟨a, iv.b, by
  cases a with
  | true =>
    show tb σ H2 Q
    exact h2 rfl H2 (e.trans e2) Q fun v H3 e3 => q v H3 (e2.trans e3)
  | false =>
    show Q (.bl false) H2
    exact q _ H2 e2 (.bl _)⟩
theorem ed_or {a b : Bool} (h1 : EvD ta σ H (.bool a)) (h2 : a = false → EvD tb σ H (.bool b)) : EvD (tOrV ta tb) σ H (.bool (a || b)) := fun H1 e Q q => h1 H1 e _ fun v H2 e2 iv => ⟨a, iv.b, by
  cases a with
  | true =>
    show Q (.bl true) H2
    exact q _ H2 e2 (.bl _)
  | false =>
    show tb σ H2 Q
    exact h2 rfl H2 (e.trans e2) Q fun v H3 e3 => q v H3 (e2.trans e3)⟩
theorem ed_not {a : Bool} (h1 : EvD ta σ H (.bool a)) : EvD (tNotV ta) σ H (.bool (!a)) := fun H1 e _ q => h1 H1 e _ fun v H2 e2 iv => ⟨a, iv.b, q _ H2 e2 (.bl _)⟩
theorem ed_if {b : Bool} (h : EvT t σ H b) (h1 : b = true → EvD ta σ H d) (h2 : b = false → EvD tb σ H d) : EvD (tIf t ta tb) σ H d := fun H1 e Q q => h H1 e _ fun H2 e2 => by
  cases b with
  | true =>
    show ta σ H2 Q
    exact h1 rfl H2 (e.trans e2) Q fun v H3 e3 => q v H3 (e2.trans e3)
  | false =>
    show tb σ H2 Q
    exact h2 rfl H2 (e.trans e2) Q fun v H3 e3 => q v H3 (e2.trans e3)
/-- a op b op c -/
theorem ed_chain {g g' : Int → Int → Bool} {i j k : Int} {tc : TE} (ha : EvD ta σ H (.int i)) (hb : EvD tb σ H (.int j)) (hc : EvD tc σ H (.int k)) :
    EvD (tChain (rI0 fun i j => .bl (g i j)) (rI0 fun i j => .bl (g' i j)) ta tb tc) σ H (.bool (g i j && g' j k)) := fun H1 e Q q =>
  ha H1 e _ fun x H2 e2 i2 => hb H2 (e.trans e2) _ fun y H3 e3 i3 => ⟨i, j, i2.i, i3.i, g i j, rfl, by
    cases c : g i j with
    | true =>
      rw [if_pos rfl]
      refine hc H3 ((e.trans e2).trans e3) _ fun z H4 e4 i4 => ⟨j, k, i3.i, i4.i, ?_⟩
      have h := q (.bl (g' j k)) H4 ((e2.trans e3).trans e4) (by rw [c]; exact .bl _)
      exact h
    | false =>
      rw [if_neg (by decide)]
      exact q (.bl false) H3 (e2.trans e3) (by rw [c]; exact .bl _)⟩
end
end Pd
set_option Elab.async false
set_option linter.all false
set_option maxRecDepth 100000
set_option maxHeartbeats 2000000
/-! Pd2: built-ins, texts, comprehensions, loops and calls over immutable data. -/
namespace Pd
open PySem L2 Evl
section
variable {K : PySem.W.Frag} {σ : L2.St} {H H' : Hp} {ta tb te tx tl to : TE} {t u : TT} {x y z v : V} {d d' e' : PyData} {ds es : List PyData}
/-! ### built-ins -/
theorem ed_cb {r : List V → Hp → VK → Prop} {ta : TA} (h : EvDs ta σ H ds) (hr : ∀ vs H1, Ex H H1 → Ims H1 vs ds → ∀ Q : VK, (∀ v H2, Ex H1 H2 → Im H2 v d → Q v H2) → r vs H1 Q) : EvD (tCB r ta) σ H d := fun H1 e Q q =>
  h H1 e _ fun vs H2 e2 i2 => hr vs H2 (e.trans e2) i2 Q fun v H3 e3 i3 => q v H3 (e2.trans e3) i3
theorem en_cb {r : List V → Hp → VK → Prop} {ta : TA} (h : EvDs ta σ H ds) (hr : ∀ vs H1, Ex H H1 → Ims H1 vs ds → ∀ Q : VK, (∀ p xs H2, H1 p = none → Ex H1 H2 → H2 p = some (.lst xs) → Ims H2 xs es → Q (.ref p) H2) → r vs H1 Q) : EvN (tCB r ta) σ H es := fun H1 e Q q =>
  h H1 e _ fun vs H2 e2 i2 => hr vs H2 (e.trans e2) i2 Q fun p xs H3 n3 e3 i3 i4 => q p xs H3 (fresh_back e2 n3) (e2.trans e3) i3 i4
theorem Ims.one {vs : List V} (h : Ims H vs [d]) : ∃ v, vs = [v] ∧ Im H v d := by
  cases h with
  | cons h1 h2 => cases h2; exact ⟨_, rfl, h1⟩
theorem Ims.two {vs : List V} (h : Ims H vs [d, d']) : ∃ v w, vs = [v, w] ∧ Im H v d ∧ Im H w d' := by
  cases h with
  | cons h1 h2 => cases h2 with | cons h2 h3 => cases h3; exact ⟨_, _, rfl, h1, h2⟩
theorem Ims.three {d3 : PyData} {vs : List V} (h : Ims H vs [d, d', d3]) : ∃ v w u, vs = [v, w, u] ∧ Im H v d ∧ Im H w d' ∧ Im H u d3 := by
  cases h with
  | cons h1 h2 => obtain ⟨w, u, rfl, a, b⟩ := h2.two; exact ⟨_, _, _, rfl, h1, a, b⟩
theorem ed_lenS {a : Str} (h : EvD ta σ H (.str a)) (hz : a.length ≤ 100000) : EvD (tCB (fun xs H Q => ∃ z, xs = [.str z] ∧ z.length ≤ sizeLine ∧ Q (.int z.length) H) (tCons ta tNil)) σ H (.int a.length) :=
  ed_cb (ea1 h ea0) fun vs H1 e i Q q => by
    obtain ⟨v, rfl, iv⟩ := i.one
    rw [iv.s]
    exact ⟨a, rfl, sz_of hz, q _ H1 (Ex.refl H1) (.int _)⟩
theorem ed_lenT (h : EvD ta σ H (.tuple ds)) : EvD (tCB (rLenS K) (tCons ta tNil)) σ H (.int ds.length) :=
  ed_cb (ea1 h ea0) fun vs H1 e i Q q => by
    obtain ⟨v, rfl, iv⟩ := i.one
    obtain ⟨p, xs, rfl, h1, h2⟩ := iv.t
    exact ⟨p, xs, rfl, .inr (SqT.of h1), q _ H1 (Ex.refl H1) (by rw [h2.length]; exact .int _)⟩
theorem ed_lenL (h : EvD ta σ H (.list ds)) : EvD (tCB (rLenS K) (tCons ta tNil)) σ H (.int ds.length) :=
  ed_cb (ea1 h ea0) fun vs H1 e i Q q => by
    obtain ⟨v, rfl, iv⟩ := i.one
    obtain ⟨p, xs, rfl, h1, h2⟩ := iv.l
    exact ⟨p, xs, rfl, .inl (SqL.of h1), q _ H1 (Ex.refl H1) (by rw [h2.length]; exact .int _)⟩
/-- the built-in type of data -/
def tyN : PyData → String
  | .none => "NoneType"
  | .bool _ => "bool"
  | .int _ => "int"
  | .str _ => "str"
  | .list _ => "list"
  | .tuple _ => "tuple"
  | .dict _ => "dict"
theorem Im.ty (h : Im H v d) : TyX K H v (.type (tyN d)) := by
  cases h with
  | non => exact .base .non
  | bl b => exact .base (.bl b)
  | int i => exact .base (.int i)
  | str s => exact .base (.str s)
  | lst h1 _ => exact .base (.lst h1)
  | tup h1 _ => exact .base (.tup h1)
theorem ed_isi {T : String} {b : Bool} (h : EvD ta σ H d) (hb : kitB (tyN d) T = some b) : EvD (tCB (rIsi K) (tCons ta (tCons (tC (.ty T)) tNil))) σ H (.bool b) := fun H1 e Q q =>
  h H1 e _ fun v H2 e2 iv => ⟨v, .ty T, .type (tyN d), .type T, b, rfl, .ty T, iv.ty, kit_ty hb, q _ H2 e2 (.bl b)⟩
theorem all_strs : ∀ bs : List Bool, bs.all id = bs.all (fun b => b) := fun _ => rfl
theorem ed_all {bs : List Bool} (h : EvD te σ H (.list (bs.map .bool))) : EvD (tCB (rAll K) (tCons te tNil)) σ H (.bool (bs.all id)) :=
  ed_cb (ea1 h ea0) fun vs H1 e i Q q => by
    obtain ⟨v, rfl, iv⟩ := i.one
    obtain ⟨p, xs, rfl, h1, h2⟩ := iv.l
    have ex := h2.bls; subst ex
    exact ⟨p, bs, rfl, SqL.of h1, q _ H1 (Ex.refl H1) (.bl _)⟩
theorem ed_any {bs : List Bool} (h : EvD te σ H (.list (bs.map .bool))) : EvD (tCB (rAny K) (tCons te tNil)) σ H (.bool (bs.any id)) :=
  ed_cb (ea1 h ea0) fun vs H1 e i Q q => by
    obtain ⟨v, rfl, iv⟩ := i.one
    obtain ⟨p, xs, rfl, h1, h2⟩ := iv.l
    have ex := h2.bls; subst ex
    exact ⟨p, bs, rfl, SqL.of h1, q _ H1 (Ex.refl H1) (.bl _)⟩
abbrev rTupOf (K : PySem.W.Frag) : List V → Hp → VK → Prop := fun xs H Q => ∃ p ys, xs = [.ref p] ∧ ((SqL K H p ys ∧ ∀ l, H l = none → Q (.ref l) (upd H l (.tup ys))) ∨ (SqT K H p ys ∧ Q (.ref p) H))
theorem ed_tupOf (h : EvD ta σ H (.list ds)) : EvD (tCB (rTupOf K) (tCons ta tNil)) σ H (.tuple ds) :=
  ed_cb (ea1 h ea0) fun vs H1 e i Q q => by
    obtain ⟨v, rfl, iv⟩ := i.one
    obtain ⟨p, xs, rfl, h1, h2⟩ := iv.l
    exact ⟨p, xs, rfl, .inl ⟨SqL.of h1, fun l hl => q _ _ (Ex.new hl) (.tup upd_same (h2.mono (Ex.new hl)))⟩⟩
abbrev rLstOf (K : PySem.W.Frag) : List V → Hp → VK → Prop := fun xs H Q => ∃ p ys, xs = [.ref p] ∧ (SqL K H p ys ∨ SqT K H p ys) ∧ ∀ l, H l = none → Q (.ref l) (upd H l (.lst ys))
theorem en_lstOfT (h : EvD ta σ H (.tuple ds)) : EvN (tCB (rLstOf K) (tCons ta tNil)) σ H ds :=
  en_cb (ea1 h ea0) fun vs H1 e i Q q => by
    obtain ⟨v, rfl, iv⟩ := i.one
    obtain ⟨p, xs, rfl, h1, h2⟩ := iv.t
    exact ⟨p, xs, rfl, .inr (SqT.of h1), fun l hl => q l _ _ hl (Ex.new hl) upd_same (h2.mono (Ex.new hl))⟩
/-! ### texts -/
abbrev rJoin (K : PySem.W.Frag) : V → List V → Hp → VK → Prop := fun x xs H Q => ∃ a p, ∃ ys : List Str, x = .str a ∧ xs = [.ref p] ∧ (SqL K H p (ys.map V.str) ∨ SqT K H p (ys.map V.str)) ∧
    (ys.map (·.length)).sum + ys.length * a.length ≤ 16777216 ∧ Q (.str (Txt.join a ys)) H
theorem ed_joinL {a : Str} {ys : List Str} (h : EvD to σ H (.str a)) (h2 : EvD te σ H (.list (ys.map .str))) (hz : (ys.map (·.length)).sum + ys.length * a.length ≤ 16777216) : EvD (tM1 (rJoin K) to te) σ H (.str (Txt.join a ys)) := fun H1 e Q q =>
  h H1 e _ fun v H2 e2 iv => ⟨⟨a, iv.s⟩, h2 H2 (e.trans e2) _ fun w H3 e3 iw => by
    obtain ⟨p, xs, rfl, g1, g2⟩ := iw.l
    have ex := g2.strs; subst ex
    exact ⟨a, p, ys, iv.s, rfl, .inl (SqL.of g1), hz, q _ H3 (e2.trans e3) (.str _)⟩⟩
theorem ed_joinT {a : Str} {ys : List Str} (h : EvD to σ H (.str a)) (h2 : EvD te σ H (.tuple (ys.map .str))) (hz : (ys.map (·.length)).sum + ys.length * a.length ≤ 16777216) : EvD (tM1 (rJoin K) to te) σ H (.str (Txt.join a ys)) := fun H1 e Q q =>
  h H1 e _ fun v H2 e2 iv => ⟨⟨a, iv.s⟩, h2 H2 (e.trans e2) _ fun w H3 e3 iw => by
    obtain ⟨p, xs, rfl, g1, g2⟩ := iw.t
    have ex := g2.strs; subst ex
    exact ⟨a, p, ys, iv.s, rfl, .inr (SqT.of g1), hz, q _ H3 (e2.trans e3) (.str _)⟩⟩
abbrev rSplit : V → List V → Hp → VK → Prop := fun x xs H Q => ∃ a b, x = .str a ∧ xs = [.str b] ∧ (b.length == 0) = false ∧ a.length + 2 ≤ sizeLine ∧ rNewStrs (Txt.split a b) H Q
theorem en_split {a b : Str} (h : EvD to σ H (.str a)) (h2 : EvD te σ H (.str b)) (hb : (b.length == 0) = false) (hz : a.length + 2 ≤ 100000) : EvN (tM1 rSplit to te) σ H ((Txt.split a b).map .str) := fun H1 e Q q =>
  h H1 e _ fun v H2 e2 iv => ⟨⟨a, iv.s⟩, h2 H2 (e.trans e2) _ fun w H3 e3 iw =>
    ⟨a, b, iv.s, by rw [iw.s], hb, sz_of hz, fun p hp => q p _ _ (fresh_back (e2.trans e3) hp) ((e2.trans e3).trans (Ex.new hp)) upd_same (Ims.ofStrs _)⟩⟩
abbrev rUpper : V → List V → Hp → VK → Prop := fun x xs H Q => ∃ a, x = .str a ∧ xs = [] ∧ a.length ≤ 5592405 ∧ Q (.str (Txt.upper a)) H
theorem ed_upper {a : Str} (h : EvD to σ H (.str a)) (hz : a.length ≤ 100000) : EvD (tM0 rUpper to) σ H (.str (Txt.upper a)) := fun H1 e Q q =>
  h H1 e _ fun v H2 e2 iv => ⟨⟨a, iv.s⟩, a, iv.s, rfl, by omega, q _ H2 e2 (.str _)⟩
/-! ### calls of pure defs -/
def SpP (dom : List PyData → Prop) (f : List PyData → PyData) : Sp := fun vs H Q _ => ∃ ds, Ims H vs ds ∧ dom ds ∧ ∀ v H', Ex H H' → Im H' v (f ds) → Q v H'
theorem ed_call {dom : List PyData → Prop} {f : List PyData → PyData} {E : XK} {ta : TA} (h : EvDs ta σ H ds) (hd : dom ds) : EvD (tCall (SpP dom f) [] E ta) σ H (f ds) := fun H1 e Q q =>
  h H1 e _ fun vs H2 e2 i2 => ⟨ds, by rw [List.append_nil]; exact i2, hd, fun v H3 e3 i3 => q v H3 (e2.trans e3) i3⟩
/-- by a relation of arguments and result -/
def SpQ (R : List PyData → PyData → Prop) : Sp := fun vs H Q _ => ∃ ds d, Ims H vs ds ∧ R ds d ∧ ∀ v H', Ex H H' → Im H' v d → Q v H'
theorem ed_callQ {R : List PyData → PyData → Prop} {E : XK} {ta : TA} (h : EvDs ta σ H ds) (hd : R ds d) : EvD (tCall (SpQ R) [] E ta) σ H d := fun H1 e Q q =>
  h H1 e _ fun vs H2 e2 i2 => ⟨ds, d, by rw [List.append_nil]; exact i2, hd, fun v H3 e3 i3 => q v H3 (e2.trans e3) i3⟩
theorem SpQ.len {R : List PyData → PyData → Prop} {n : Nat} (h : ∀ ds d, R ds d → ds.length = n) : ∀ vs H Q E, SpQ R vs H Q E → vs.length = n := fun vs H Q E ⟨ds, d, i, r, _⟩ => by rw [i.length]; exact h ds d r
/-- slices of data -/
theorem cutD_from (k : Nat) (ds : List PyData) : cutD ds (some (k : Int)) none = ds.drop k := by
  unfold cutD
  rw [HT.sIx_nat, HT.sIx_none]
  rcases Nat.le_total k ds.length with h | h
  · rw [Nat.min_eq_left h, List.take_of_length_le (by simp)]
  · rw [Nat.min_eq_right h]
    simp [List.drop_eq_nil_of_le h]
theorem cutD_to (k : Nat) (ds : List PyData) : cutD ds none (some (k : Int)) = ds.take k := by
  unfold cutD
  rw [HT.sIx_nat, HT.sIx_none, List.drop_zero, Nat.sub_zero]
  rcases Nat.le_total k ds.length with h | h
  · rw [Nat.min_eq_left h]
  · rw [Nat.min_eq_right h, List.take_of_length_le (Nat.le_refl _), List.take_of_length_le h]
theorem cutD_init (ds : List PyData) : cutD ds none (some (-1)) = ds.dropLast := by
  unfold cutD
  have e : HT.sIx ds.length ds.length (some (-1)) = ds.length - 1 := by
    show (if (-1 : Int) < 0 then ((-1 : Int) + (ds.length : Int)).toNat else min (-1 : Int).toNat ds.length) = ds.length - 1
    rw [if_pos (by omega)]
    omega
  rw [e, HT.sIx_none, List.drop_zero, Nat.sub_zero, List.dropLast_eq_take]
/-- shapes -/
theorem shaped_strs {ss : List Str} (h : ∀ w ∈ ss, PyData.strOk w = true) : SeqAt.shaped (.tuple (ss.map .str)) = true := by
  have c : ∀ l : List Str, (∀ w ∈ l, PyData.strOk w = true) → PyData.canLayAll0 (l.map .str) = true ∧ PyData.depthAll (l.map .str) = 0 := by
    intro l
    induction l with
    | nil => intro _; exact ⟨by simp [PyData.canLayAll0], by simp [PyData.depthAll]⟩
    | cons a l ih =>
      intro hl
      obtain ⟨i1, i2⟩ := ih fun w hw => hl w (List.mem_cons_of_mem _ hw)
      have ha := hl a (List.mem_cons_self ..)
      exact ⟨by simp [PyData.canLayAll0, PyData.canLay0, ha, i1], by simp [PyData.depthAll, PyData.depth, i2]⟩
  obtain ⟨c1, c2⟩ := c ss h
  unfold SeqAt.shaped
  simp [PyData.canLay0, PyData.depth, c1, c2]
theorem shaped_rows {sss : List (List Str)} (h : ∀ ss ∈ sss, ∀ w ∈ ss, PyData.strOk w = true) : SeqAt.shaped (.tuple (sss.map fun ss => .tuple (ss.map .str))) = true := by
  have c : ∀ l : List (List Str), (∀ ss ∈ l, ∀ w ∈ ss, PyData.strOk w = true) → PyData.canLayAll0 (l.map fun ss => .tuple (ss.map .str)) = true ∧ PyData.depthAll (l.map fun ss => .tuple (ss.map .str)) ≤ 63 := by
    intro l
    induction l with
    | nil => intro _; exact ⟨by simp [PyData.canLayAll0], by simp [PyData.depthAll]⟩
    | cons a l ih =>
      intro hl
      obtain ⟨i1, i2⟩ := ih fun w hw => hl w (List.mem_cons_of_mem _ hw)
      have ha := shaped_strs (hl a (List.mem_cons_self ..))
      unfold SeqAt.shaped at ha
      simp only [Bool.and_eq_true, decide_eq_true_eq] at ha
      have hd : PyData.depth (.tuple (a.map .str)) ≤ 63 := by
        have z : ∀ m : List Str, PyData.depthAll (m.map .str) = 0 := by
          intro m
          induction m with
          | nil => simp [PyData.depthAll]
          | cons b m ih2 => simp [PyData.depthAll, PyData.depth, ih2]
        simp [PyData.depth, z a]
      refine ⟨by simp only [List.map_cons, PyData.canLayAll0, ha.1, i1, Bool.and_self], ?_⟩
      simp only [List.map_cons, PyData.depthAll]
      omega
  obtain ⟨c1, c2⟩ := c sss h
  unfold SeqAt.shaped
  have e : decide (PyData.depth (.tuple (sss.map fun ss => .tuple (ss.map .str))) ≤ 64) = true := by
    rw [decide_eq_true_eq]
    show PyData.depthAll (sss.map fun ss => .tuple (ss.map .str)) + 1 ≤ 64
    omega
  rw [e]
  show (PyData.canLayAll0 (sss.map fun ss => .tuple (ss.map .str)) && true) = true
  rw [c1]; rfl
theorem eqv_nil (ds : List PyData) : PyData.eqv (.tuple ds) (.tuple []) = ds.isEmpty := by
  cases ds <;> simp [PyData.eqv, PyData.eqvAll]
theorem shaped_nil : SeqAt.shaped (.tuple []) = true := by decide
/-! ### what is walked -/
/-- wi walks data src -/
def Wk (wi : TI) (σ : L2.St) (H : Hp) (src : List PyData) : Prop := ∀ H1, Ex H H1 → ∀ R : It → Hp → Prop,
  (∀ J H2 G Y, Ex H1 H2 → Walk J src.length G Y → (∀ H3, Ex H2 H3 → G H3) → (∀ i H3 x H4, Ex H2 H3 → Y i H3 x H4 → Ex H3 H4 ∧ ∃ d, src[i]? = some d ∧ Im H4 x d) → R J H2) → wi σ H1 R
theorem Wk.mono {wi : TI} {src : List PyData} (e : Ex H H') (h : Wk wi σ H src) : Wk wi σ H' src := fun H1 a R r => h H1 (e.trans a) R r
theorem wk_tup (h : EvD tl σ H (.tuple ds)) : Wk (iTup K tl) σ H ds := fun H1 e R r =>
  h H1 e _ fun v H2 e2 iv => by
    obtain ⟨p, xs, rfl, g1, g2⟩ := iv.t
    refine ⟨p, rfl, ⟨xs, SqT.of g1⟩, r _ H2 (fun H => SqT K H p xs) (YAt xs) e2 (by rw [← g2.length]; exact walk_tup) (fun H3 e3 => SqT.of (e3 _ _ g1)) fun i H3 x H4 e3 yy => ?_⟩
    obtain ⟨rfl, hx⟩ := yy
    obtain ⟨d, hd, im⟩ := (g2.mono e3).get hx
    exact ⟨Ex.refl _, d, hd, im⟩
theorem wk_list (h : EvD tl σ H (.list ds)) : Wk (iList K tl) σ H ds := fun H1 e R r =>
  h H1 e _ fun v H2 e2 iv => by
    obtain ⟨p, xs, rfl, g1, g2⟩ := iv.l
    refine ⟨p, rfl, ⟨xs, SqL.of g1⟩, r _ H2 (fun H => SqL K H p xs) (YAt xs) e2 (by rw [← g2.length]; exact walk_list) (fun H3 e3 => SqL.of (e3 _ _ g1)) fun i H3 x H4 e3 yy => ?_⟩
    obtain ⟨rfl, hx⟩ := yy
    obtain ⟨d, hd, im⟩ := (g2.mono e3).get hx
    exact ⟨Ex.refl _, d, hd, im⟩
/-- a text's signs -/
def signs (z : Str) : List PyData := z.cps.toList.map fun c => .str ⟨#[c]⟩
theorem wk_str {z : Str} (h : EvD tl σ H (.str z)) : Wk (iStr tl) σ H (signs z) := fun H1 e R r =>
  h H1 e _ fun v H2 e2 iv => by
    refine ⟨z, iv.s, r _ H2 (fun _ => True) (fun i H v H' => H' = H ∧ ∃ c, z.cps[i]? = some c ∧ v = .str ⟨#[c]⟩) e2 (by
      have : (signs z).length = z.cps.size := by simp [signs]
      rw [this]; exact walk_str) (fun _ _ => trivial) fun i H3 x H4 e3 yy => ?_⟩
    obtain ⟨rfl, c, hc, rfl⟩ := yy
    refine ⟨Ex.refl _, .str ⟨#[c]⟩, ?_, .str _⟩
    unfold signs
    rw [List.getElem?_map]
    have : z.cps.toList[i]? = some c := by simpa using hc
    rw [this]; rfl
theorem zip_get {α β : Type} : ∀ {xs : List α} {ys : List β} {i : Nat} {x : α} {y : β}, xs[i]? = some x → ys[i]? = some y → (xs.zip ys)[i]? = some (x, y)
  | [], _, _, _, _, h, _ => by simp at h
  | _ :: _, [], _, _, _, _, h => by simp at h
  | x :: xs, y :: ys, 0, _, _, h1, h2 => by simp at h1 h2; subst h1; subst h2; rfl
  | x :: xs, y :: ys, i + 1, _, _, h1, h2 => by simp at h1 h2; simpa using zip_get h1 h2
def pairs (ds es : List PyData) : List PyData := (ds.zip es).map fun p => .tuple [p.1, p.2]
theorem wk_zipT {ta : TA} (h : EvDs ta σ H [.tuple ds, .tuple es]) : Wk (RZ.iZipA K ta) σ H (pairs ds es) := fun H1 e R r =>
  h H1 e _ fun vs H2 e2 iv => by
    obtain ⟨v, w, rfl, i1, i2⟩ := iv.two
    obtain ⟨p, xs, rfl, g1, g2⟩ := i1.t
    obtain ⟨p', xs', rfl, g1', g2'⟩ := i2.t
    refine ⟨p, p', xs, xs', rfl, .inr ⟨SqT.of g1, SqT.of g1', r _ H2 (fun H => SqT K H p xs ∧ SqT K H p' xs') (YPair (fun i => xs[i]?) (fun i => xs'[i]?)) e2 ?_ (fun H3 e3 => ⟨SqT.of (e3 _ _ g1), SqT.of (e3 _ _ g1')⟩) fun i H3 x H4 e3 yy => ?_⟩⟩
    · have hn : (pairs ds es).length = min xs.length xs'.length := by simp [pairs, g2.length, g2'.length]
      rw [hn]
      refine ⟨fun i _ hi q => ?_, fun _ q => ⟨xs, xs', q.1, q.2, by omega⟩, fun i H v H' _ q y => ?_⟩
      · have h1 : i < xs.length := by omega
        have h2 : i < xs'.length := by omega
        exact ⟨xs, xs', xs[i], xs'[i], q.1, q.2, by simp [h1], by simp [h2]⟩
      · obtain ⟨T, x, z, h1, h2, h3, h4, h5⟩ := y
        exact ⟨T, x, z, h1, h2, h3, h4 xs q.1, h5 xs' q.2⟩
    · obtain ⟨T, a, b, rfl, hT, rfl, ha, hb⟩ := yy
      obtain ⟨d1, hd1, im1⟩ := (g2.mono e3).get ha
      obtain ⟨d2, hd2, im2⟩ := (g2'.mono e3).get hb
      refine ⟨Ex.new hT, .tuple [d1, d2], ?_, .tup upd_same (.cons (im1.mono (Ex.new hT)) (.cons (im2.mono (Ex.new hT)) .nil))⟩
      unfold pairs
      rw [List.getElem?_map, zip_get hd1 hd2] <;> rfl
theorem wk_zipL {ta : TA} (h : EvDs ta σ H [.list ds, .list es]) : Wk (RZ.iZipA K ta) σ H (pairs ds es) := fun H1 e R r =>
  h H1 e _ fun vs H2 e2 iv => by
    obtain ⟨v, w, rfl, i1, i2⟩ := iv.two
    obtain ⟨p, xs, rfl, g1, g2⟩ := i1.l
    obtain ⟨p', xs', rfl, g1', g2'⟩ := i2.l
    refine ⟨p, p', xs, xs', rfl, .inl ⟨SqL.of g1, SqL.of g1', r _ H2 (fun H => SqL K H p xs ∧ SqL K H p' xs') (YPair (fun i => xs[i]?) (fun i => xs'[i]?)) e2 ?_ (fun H3 e3 => ⟨SqL.of (e3 _ _ g1), SqL.of (e3 _ _ g1')⟩) fun i H3 x H4 e3 yy => ?_⟩⟩
    · have hn : (pairs ds es).length = min xs.length xs'.length := by simp [pairs, g2.length, g2'.length]
      exact walk_zip hn
    · obtain ⟨T, a, b, rfl, hT, rfl, ha, hb⟩ := yy
      obtain ⟨d1, hd1, im1⟩ := (g2.mono e3).get ha
      obtain ⟨d2, hd2, im2⟩ := (g2'.mono e3).get hb
      refine ⟨Ex.new hT, .tuple [d1, d2], ?_, .tup upd_same (.cons (im1.mono (Ex.new hT)) (.cons (im2.mono (Ex.new hT)) .nil))⟩
      unfold pairs
      rw [List.getElem?_map, zip_get hd1 hd2] <;> rfl
/-- enumerate -/
def numbered : Nat → List PyData → List PyData
  | _, [] => []
  | n, d :: ds => .tuple [.int (n : Nat), d] :: numbered (n + 1) ds
theorem numbered_length : ∀ (ds : List PyData) (n : Nat), (numbered n ds).length = ds.length
  | [], _ => rfl
  | d :: ds, n => by simp [numbered, numbered_length ds]
theorem numbered_get : ∀ (ds : List PyData) (n i : Nat) (d : PyData), ds[i]? = some d → (numbered n ds)[i]? = some (.tuple [.int ((n + i : Nat) : Int), d])
  | [], _, _, _, h => by simp at h
  | d :: ds, n, 0, _, h => by simp at h; subst h; simp [numbered]
  | d :: ds, n, i + 1, e, h => by
    have ih := numbered_get ds (n + 1) i e (by simpa using h)
    simp only [numbered, List.getElem?_cons_succ, ih]
    have : n + 1 + i = n + (i + 1) := by omega
    rw [this]
theorem wk_enumL {ta : TA} (h : EvDs ta σ H [.list ds]) : Wk (iEnum K ta) σ H (numbered 0 ds) := fun H1 e R r =>
  h H1 e _ fun vs H2 e2 iv => by
    obtain ⟨v, rfl, i1⟩ := iv.one
    obtain ⟨p, xs, rfl, g1, g2⟩ := i1.l
    refine ⟨p, xs, rfl, SqL.of g1, r _ H2 (fun H => SqL K H p xs) (YPair (fun i => some (.int (i : Nat))) (fun i => xs[i]?)) e2 (by rw [numbered_length, ← g2.length]; exact walk_enum) (fun H3 e3 => SqL.of (e3 _ _ g1)) fun i H3 x H4 e3 yy => ?_⟩
    obtain ⟨T, a, b, rfl, hT, rfl, ha, hb⟩ := yy
    obtain ⟨d2, hd2, im2⟩ := (g2.mono e3).get hb
    have ea : a = .int (i : Nat) := (Option.some.inj ha).symm
    subst ea
    refine ⟨Ex.new hT, .tuple [.int (i : Nat), d2], ?_, .tup upd_same (.cons (.int _) (.cons (im2.mono (Ex.new hT)) .nil))⟩
    have := numbered_get ds 0 i d2 hd2
    rw [Nat.zero_add] at this
    exact this
/-! ### comprehensions -/
theorem tx_lst {D : Addr} {acc ys : List V} (h : H D = some (.lst acc)) : Tx H (upd H D (.lst ys)) := fun a xs ha => by
  rw [upd_ne (fun z => by subst z; rw [h] at ha; cases ha)]
  exact ha
theorem stills_of {α : Type} {f : α → PyData} : ∀ {l : List α}, (∀ d ∈ l, still (f d) = true) → stills (l.map f) = true
  | [], _ => rfl
  | d :: l, h => by
    show (still (f d) && stills (l.map f)) = true
    rw [h d (List.mem_cons_self ..), stills_of fun e he => h e (List.mem_cons_of_mem _ he)]
    rfl
theorem take_more {α : Type} : ∀ {l : List α} {i : Nat} {x : α}, l[i]? = some x → l.take (i + 1) = l.take i ++ [x]
  | [], i, x, h => by simp at h
  | a :: l, 0, x, h => by simp at h; subst h; rfl
  | a :: l, i + 1, x, h => by
    have ih := take_more (l := l) (i := i) (x := x) (by simpa using h)
    show a :: l.take (i + 1) = a :: l.take i ++ [x]
    rw [ih]; rfl
/-- a comprehension over data that comes from a list l of things: what each thing gives -/
theorem en_lcG {α : Type} {wi : TI} {g : TG} {tt : TT} {vs : List Nat} {l : List α} {emb : α → PyData} (f : α → PyData) (c : α → Bool) (hk : Wk wi σ H (l.map emb)) (hz : l.length ≤ 40000)
    (hb : ∀ d, d ∈ l → ∀ x H1, Ex H H1 → Im H1 x (emb d) → ∀ K' : L2.St → Hp → Prop, (∀ σ2, wipe σ2 vs = wipe σ vs → EvT tt σ2 H1 (c d) → (c d = true → EvD te σ2 H1 (f d)) → K' σ2 H1) → g x (wipe σ vs) H1 K')
    (hs : ∀ d ∈ l, c d = true → still (f d) = true) : EvN (tLc wi g tt te vs) σ H ((l.filter c).map f) := fun H0 e0 Q q =>
  hk H0 e0 _ fun J H2 G Y e2 W hG hY D hD => by
    have still_take : ∀ i, stills (((l.take i).filter c).map f) = true := fun i => by
      have key : ∀ m : List α, (∀ d ∈ m, c d = true → still (f d) = true) → stills ((m.filter c).map f) = true := by
        intro m
        induction m with
        | nil => intro _; rfl
        | cons d m ih =>
          intro hm
          have ih' := ih fun e he => hm e (List.mem_cons_of_mem _ he)
          cases hc : c d with
          | true =>
            rw [List.filter_cons_of_pos hc]
            show (still (f d) && stills ((m.filter c).map f)) = true
            rw [hm d (List.mem_cons_self ..) hc, ih']; rfl
          | false => rw [List.filter_cons_of_neg (by rw [hc]; decide)]; exact ih'
      exact key _ fun d hd hc => hs d (List.mem_of_mem_take hd) hc
    rw [List.length_map] at W
    refine lc_it W (fun i H' => Ex H2 H' ∧ ∃ acc, H' D = some (.lst acc) ∧ acc.length ≤ i ∧ Ims H' acc (((l.take i).filter c).map f))
      ⟨Ex.new hD, [], upd_same, Nat.le_refl _, .nil⟩ (fun i H' _ p => hG H' p.1) (fun i x H3 H4 hi p y => ?_) fun H' p => ?_
    · obtain ⟨p1, acc, p2, p4, p3⟩ := p
      obtain ⟨e34, d0, hd0, im⟩ := hY i H3 x H4 p1 y
      rw [List.getElem?_map] at hd0
      obtain ⟨d, hd, rfl⟩ : ∃ d, l[i]? = some d ∧ emb d = d0 := by
        cases e : l[i]? with
        | none => rw [e] at hd0; cases hd0
        | some d => rw [e] at hd0; exact ⟨d, rfl, Option.some.inj hd0⟩
      have hm : d ∈ l := List.mem_of_getElem? hd
      refine hb d hm x H4 ((e0.trans e2).trans (p1.trans e34)) im _ fun σ2 hσ hT hE => ⟨hσ, ?_⟩
      refine hT H4 (Ex.refl H4) _ fun H5 e45 => ?_
      have more := take_more hd
      cases hc : c d with
      | true =>
        show te σ2 H5 _
        refine hE hc H5 e45 _ fun v H6 e56 iv => ⟨acc, ((e34.trans e45).trans e56) D _ p2, sz_lt (by omega), Ex.mut (((p1.trans e34).trans e45).trans e56) hD, acc ++ [v], upd_same, by rw [List.length_append, List.length_singleton]; omega, ?_⟩
        have hacc := ((e34.trans e45).trans e56) D _ p2
        have t6 : Tx H6 (upd H6 D (.lst (acc ++ [v]))) := tx_lst hacc
        rw [more, List.filter_append, List.map_append]
        have ef : List.filter c [d] = [d] := by simp [hc]
        rw [ef]
        exact Ims.append ((p3.mono ((e34.trans e45).trans e56)).tx t6 (still_take i)) (.cons (iv.tx t6 (hs d hm hc)) .nil)
      | false =>
        show Ex H2 H5 ∧ _
        refine ⟨(p1.trans e34).trans e45, acc, (e34.trans e45) D _ p2, by omega, ?_⟩
        rw [more, List.filter_append]
        have ef : List.filter c [d] = [] := by simp [hc]
        rw [ef, List.append_nil]
        exact p3.mono (e34.trans e45)
    · obtain ⟨p1, acc, p2, _, p3⟩ := p
      rw [List.take_length] at p3
      exact q D acc H' (fresh_back e2 hD) (e2.trans p1) p2 p3
/-- the target a name -/
theorem en_lc {α : Type} {wi : TI} {tt : TT} {j : Nat} {vs : List Nat} {l : List α} {emb : α → PyData} (f : α → PyData) (c : α → Bool) (hk : Wk wi σ H (l.map emb)) (hz : l.length ≤ 40000)
    (hb : ∀ d, d ∈ l → ∀ x H1, Ex H H1 → Im H1 x (emb d) → EvT tt ((wipe σ vs).set j (some x)) H1 (c d) ∧ (c d = true → EvD te ((wipe σ vs).set j (some x)) H1 (f d)))
    (hs : ∀ d ∈ l, c d = true → still (f d) = true) (hw : ∀ x, wipe ((wipe σ vs).set j (some x)) vs = wipe σ vs := by intro x; rfl) : EvN (tLc wi (gName j) tt te vs) σ H ((l.filter c).map f) :=
  en_lcG f c hk hz (fun d hd x H1 e im K' k => k _ (hw x) (hb d hd x H1 e im).1 (hb d hd x H1 e im).2) hs
theorem et_yes : EvT tYes σ H true := fun H1 _ _ q => q H1 (Ex.refl H1)
/-- .. without a test -/
theorem en_lcM {α : Type} {wi : TI} {j : Nat} {vs : List Nat} {l : List α} {emb : α → PyData} (f : α → PyData) (hk : Wk wi σ H (l.map emb)) (hz : l.length ≤ 40000)
    (hb : ∀ d, d ∈ l → ∀ x H1, Ex H H1 → Im H1 x (emb d) → EvD te ((wipe σ vs).set j (some x)) H1 (f d))
    (hs : ∀ d ∈ l, still (f d) = true) (hw : ∀ x, wipe ((wipe σ vs).set j (some x)) vs = wipe σ vs := by intro x; rfl) : EvN (tLc wi (gName j) tYes te vs) σ H (l.map f) := by
  have h := en_lc (tt := tYes) (α := α) f (fun _ => true) hk hz (fun d hd x H1 e im => ⟨et_yes, fun _ => hb d hd x H1 e im⟩) (fun d hd _ => hs d hd) hw
  rw [List.filter_eq_self.mpr (fun _ _ => rfl)] at h
  exact h
/-- the target a pair of names -/
theorem en_lcP {α : Type} {wi : TI} {i j : Nat} {vs : List Nat} {l : List α} {e1 e2 : α → PyData} (f : α → PyData) (hk : Wk wi σ H (l.map fun a => .tuple [e1 a, e2 a])) (hz : l.length ≤ 40000)
    (hb : ∀ d, d ∈ l → ∀ x y H1, Ex H H1 → Im H1 x (e1 d) → Im H1 y (e2 d) → EvD te (((wipe σ vs).set i (some x)).set j (some y)) H1 (f d))
    (hs : ∀ d ∈ l, still (f d) = true) (hw : ∀ x y, wipe (((wipe σ vs).set i (some x)).set j (some y)) vs = wipe σ vs := by intro x y; rfl) : EvN (tLc wi (gTup K 2 (gCons (gName i) (gCons (gName j) gNil))) tYes te vs) σ H (l.map f) := by
  have h := en_lcG (te := te) (α := α) (g := gTup K 2 (gCons (gName i) (gCons (gName j) gNil))) (tt := tYes) (vs := vs) f (fun _ => true) hk hz (fun d hd x H1 e im K' k => by
    obtain ⟨p, xs, rfl, g1, g2⟩ := im.t
    obtain ⟨a, b, rfl, ia, ib⟩ := g2.two
    refine ⟨p, [a, b], rfl, SqT.of g1, rfl, a, [b], rfl, b, [], rfl, rfl, ?_⟩
    exact k _ (hw a b) et_yes fun _ => hb d hd a b H1 e ia ib) (fun d hd _ => hs d hd)
  rw [List.filter_eq_self.mpr (fun _ _ => rfl)] at h
  exact h
theorem pairs_map {α β : Type} (e1 : α → PyData) (e2 : β → PyData) : ∀ (l : List α) (m : List β), pairs (l.map e1) (m.map e2) = (l.zip m).map fun p => .tuple [e1 p.1, e2 p.2]
  | [], _ => rfl
  | _ :: _, [] => rfl
  | a :: l, b :: m => by
    have ih := pairs_map e1 e2 l m
    unfold pairs at ih ⊢
    simp only [List.map_cons, List.zip_cons_cons, ih]
/-- a text's signs -/
theorem en_lcS {j : Nat} {vs : List Nat} {z : Str} (f : Nat → PyData) (h : EvD tl σ H (.str z)) (hz : z.length ≤ 40000)
    (hb : ∀ c, c ∈ z.cps.toList → ∀ H1, Ex H H1 → EvD te ((wipe σ vs).set j (some (.str ⟨#[c]⟩))) H1 (f c))
    (hs : ∀ d ∈ z.cps.toList, still (f d) = true) (hw : ∀ x, wipe ((wipe σ vs).set j (some x)) vs = wipe σ vs := by intro x; rfl) : EvN (tLc (iStr tl) (gName j) tYes te vs) σ H (z.cps.toList.map f) :=
  en_lcM (l := z.cps.toList) (emb := fun c => .str ⟨#[c]⟩) f (wk_str h) (by simpa [Str.length] using hz) (fun c hc x H1 e im => by rw [im.s]; exact hb c hc H1 e) hs hw
/-! ### statements -/
variable {D : Ends} {tu tw tz : TS} {g : TG}
theorem s_asgD {i : Nat} (h : EvD te σ H d) (k : ∀ v H1, Ex H H1 → Im H1 v d → D.nx (σ.set i (some v)) H1) : tAsg te (gName i) D σ H := h H (Ex.refl H) _ fun v H1 e iv => k v H1 e iv
theorem q_asgD {i : Nat} (h : EvD te σ H d) (k : ∀ v H1, Ex H H1 → Im H1 v d → tz D (σ.set i (some v)) H1) : tSeq (tAsg te (gName i)) tz D σ H := s_asgD (D := { D with nx := tz D }) h k
theorem q_asgN {i : Nat} (h : EvN te σ H ds) (k : ∀ p xs H1, H p = none → Ex H H1 → H1 p = some (.lst xs) → Ims H1 xs ds → tz D (σ.set i (some (.ref p))) H1) : tSeq (tAsg te (gName i)) tz D σ H := h H (Ex.refl H) _ fun p xs H1 n e a b => k p xs H1 n e a b
theorem s_retD (h : EvD te σ H d) (k : ∀ v H1, Ex H H1 → Im H1 v d → D.rt v H1) : tRet te D σ H := h H (Ex.refl H) _ fun v H1 e iv => k v H1 e iv
/-- xs.append(e) of still data -/
theorem s_appD {l : Addr} {xs : List V} (hl : H l = some (.lst xs)) (ha : Ev ta σ H (.ref l)) (h : EvD te σ H d) (hs : still d = true) (hz : xs.length < 100000) (k : ∀ v H1, Ex H H1 → H1 l = some (.lst xs) → Im (upd H1 l (.lst (xs ++ [v]))) v d → D.nx σ (upd H1 l (.lst (xs ++ [v])))) :
    tDrop (tBM K "list" rAppend ta (tCons te tNil)) D σ H := ha H (Ex.refl H) _ fun H1 e1 =>
  ⟨Or.inl ⟨rfl, xs, sq_of (e1 l _ hl)⟩, h H1 e1 _ fun v H2 e2 iv => ⟨l, xs, v, rfl, rfl, e2 l _ (e1 l _ hl), sz_lt hz, k v H2 (e1.trans e2) (e2 l _ (e1 l _ hl)) (iv.tx (tx_lst (e2 l _ (e1 l _ hl))) hs)⟩⟩
/-! ### frames: what a part of a program may change -/
/-- all but the objects at M is as it was; the tuples stay -/
def ExM (M : List Addr) (H H' : Hp) : Prop := (∀ a o, a ∉ M → H a = some o → H' a = some o) ∧ Tx H H'
theorem ExM.refl (M : List Addr) (H : Hp) : ExM M H H := ⟨fun _ _ _ h => h, Tx.refl H⟩
theorem ExM.trans {M : List Addr} {H H1 H2 : Hp} (a : ExM M H H1) (b : ExM M H1 H2) : ExM M H H2 := ⟨fun x o n h => b.1 x o n (a.1 x o n h), a.2.trans b.2⟩
theorem ExM.of {M : List Addr} {H H' : Hp} (e : Ex H H') : ExM M H H' := ⟨fun a o _ h => e a o h, Tx.of e⟩
theorem ExM.upd {M : List Addr} {H : Hp} {l : Addr} {xs ys : List V} (hl : H l = some (.lst xs)) (hm : l ∈ M) : ExM M H (upd H l (.lst ys)) :=
  ⟨fun a o n h => by rw [upd_ne (fun z => n (by rw [z]; exact hm))]; exact h, tx_lst hl⟩
theorem ExM.weak {M M' : List Addr} {H H' : Hp} (e : ExM M H H') (h : ∀ a ∈ M, a ∈ M') : ExM M' H H' := ⟨fun a o n q => e.1 a o (fun z => n (h a z)) q, e.2⟩
theorem ExM.ex {H H' : Hp} (e : ExM [] H H') : Ex H H' := fun a o h => e.1 a o (by simp) h
/-- a fresh object may change: it is no part of what is kept -/
theorem ExM.ex_of {M : List Addr} {H0 H H' : Hp} (e0 : Ex H0 H) (hM : ∀ a ∈ M, H0 a = none) (e : ExM M H H') : Ex H0 H' := fun a o h =>
  e.1 a o (fun z => by rw [hM a z] at h; cases h) (e0 a o h)
theorem Im.m {M : List Addr} (e : ExM M H H') (s : still d = true) (h : Im H v d) : Im H' v d := h.tx e.2 s
/-- wi walks data src while all but M stays -/
def WkM (M : List Addr) (wi : TI) (σ : L2.St) (H : Hp) (src : List PyData) : Prop := ∀ H1, Ex H H1 → ∀ R : It → Hp → Prop,
  (∀ J H2 G Y, Ex H1 H2 → Walk J src.length G Y → (∀ H3, ExM M H2 H3 → G H3) → (∀ i H3 x H4, ExM M H2 H3 → Y i H3 x H4 → Ex H3 H4 ∧ ∃ d, src[i]? = some d ∧ Im H4 x d) → R J H2) → wi σ H1 R
theorem wm_tup {M : List Addr} (h : EvD tl σ H (.tuple ds)) (hs : stills ds = true) : WkM M (iTup K tl) σ H ds := fun H1 e R r =>
  h H1 e _ fun v H2 e2 iv => by
    obtain ⟨p, xs, rfl, g1, g2⟩ := iv.t
    refine ⟨p, rfl, ⟨xs, SqT.of g1⟩, r _ H2 (fun H => SqT K H p xs) (YAt xs) e2 (by rw [← g2.length]; exact walk_tup) (fun H3 e3 => SqT.of (e3.2 _ _ g1)) fun i H3 x H4 e3 yy => ?_⟩
    obtain ⟨rfl, hx⟩ := yy
    obtain ⟨d, hd, im⟩ := (g2.tx e3.2 hs).get hx
    exact ⟨Ex.refl _, d, hd, im⟩
/-- over a new list -/
theorem wm_new {M : List Addr} (h : EvN tl σ H ds) (hM : ∀ a ∈ M, H a ≠ none) (hs : stills ds = true) : WkM M (iList K tl) σ H ds := fun H1 e R r =>
  h H1 e _ fun p xs H2 n2 e2 g1 g2 => by
    have hp : p ∉ M := fun z => hM p z (fresh_back e n2)
    refine ⟨p, rfl, ⟨xs, SqL.of g1⟩, r _ H2 (fun H => SqL K H p xs) (YAt xs) e2 (by rw [← g2.length]; exact walk_list) (fun H3 e3 => SqL.of (e3.1 _ _ hp g1)) fun i H3 x H4 e3 yy => ?_⟩
    obtain ⟨rfl, hx⟩ := yy
    obtain ⟨d, hd, im⟩ := (g2.tx e3.2 hs).get hx
    exact ⟨Ex.refl _, d, hd, im⟩
/-- over a list at p -/
theorem wm_at {M : List Addr} {p : Addr} {xs : List V} (h : Ev tl σ H (.ref p)) (g1 : H p = some (.lst xs)) (g2 : Ims H xs ds) (hp : p ∉ M) (hs : stills ds = true) : WkM M (iList K tl) σ H ds := fun H1 e R r =>
  h H1 e _ fun H2 e2 => by
    have g1 := (e.trans e2) _ _ g1
    have g2 := g2.mono (e.trans e2)
    refine ⟨p, rfl, ⟨xs, SqL.of g1⟩, r _ H2 (fun H => SqL K H p xs) (YAt xs) e2 (by rw [← g2.length]; exact walk_list) (fun H3 e3 => SqL.of (e3.1 _ _ hp g1)) fun i H3 x H4 e3 yy => ?_⟩
    obtain ⟨rfl, hx⟩ := yy
    obtain ⟨d, hd, im⟩ := (g2.tx e3.2 hs).get hx
    exact ⟨Ex.refl _, d, hd, im⟩
theorem wm_enumAt {M : List Addr} {p : Addr} {xs : List V} (h : Ev tl σ H (.ref p)) (g1 : H p = some (.lst xs)) (g2 : Ims H xs ds) (hp : p ∉ M) (hs : stills ds = true) : WkM M (iEnum K (tCons tl tNil)) σ H (numbered 0 ds) := fun H1 e R r =>
  h H1 e _ fun H2 e2 => by
    have g1 := (e.trans e2) _ _ g1
    have g2 := g2.mono (e.trans e2)
    refine ⟨p, xs, rfl, SqL.of g1, r _ H2 (fun H => SqL K H p xs) (YPair (fun i => some (.int (i : Nat))) (fun i => xs[i]?)) e2 (by rw [numbered_length, ← g2.length]; exact walk_enum) (fun H3 e3 => SqL.of (e3.1 _ _ hp g1)) fun i H3 x H4 e3 yy => ?_⟩
    obtain ⟨T, a, b, rfl, hT, rfl, ha, hb⟩ := yy
    obtain ⟨d2, hd2, im2⟩ := (g2.tx e3.2 hs).get hb
    have ea : a = .int (i : Nat) := (Option.some.inj ha).symm
    subst ea
    refine ⟨Ex.new hT, .tuple [.int (i : Nat), d2], ?_, .tup upd_same (.cons (.int _) (.cons (im2.mono (Ex.new hT)) .nil))⟩
    have := numbered_get ds 0 i d2 hd2
    rw [Nat.zero_add] at this
    exact this
theorem wm_enumNew {M : List Addr} (h : EvN tl σ H ds) (hM : ∀ a ∈ M, H a ≠ none) (hs : stills ds = true) : WkM M (iEnum K (tCons tl tNil)) σ H (numbered 0 ds) := fun H1 e R r =>
  h H1 e _ fun p xs H2 n2 e2 g1 g2 => by
    have hp : p ∉ M := fun z => hM p z (fresh_back e n2)
    refine ⟨p, xs, rfl, SqL.of g1, r _ H2 (fun H => SqL K H p xs) (YPair (fun i => some (.int (i : Nat))) (fun i => xs[i]?)) e2 (by rw [numbered_length, ← g2.length]; exact walk_enum) (fun H3 e3 => SqL.of (e3.1 _ _ hp g1)) fun i H3 x H4 e3 yy => ?_⟩
    obtain ⟨T, a, b, rfl, hT, rfl, ha, hb⟩ := yy
    obtain ⟨d2, hd2, im2⟩ := (g2.tx e3.2 hs).get hb
    have ea : a = .int (i : Nat) := (Option.some.inj ha).symm
    subst ea
    refine ⟨Ex.new hT, .tuple [.int (i : Nat), d2], ?_, .tup upd_same (.cons (.int _) (.cons (im2.mono (Ex.new hT)) .nil))⟩
    have := numbered_get ds 0 i d2 hd2
    rw [Nat.zero_add] at this
    exact this
theorem wm_range {M : List Addr} {ta : TA} {n : Nat} (h : EvDs ta σ H [.int (n : Int)]) (hn : n ≤ 100000) : WkM M (iRng1 ta) σ H ((List.range n).map fun i => .int (i : Nat)) := fun H1 e R r =>
  h H1 e _ fun vs H2 e2 iv => by
    obtain ⟨v, rfl, i1⟩ := iv.one
    refine ⟨(n : Int), by rw [i1.i], by omega, by omega, r _ H2 (fun _ => True) (fun i H x H' => i < n ∧ H' = H ∧ x = .int (0 + (i : Int))) e2 (by
      have : ((List.range n).map fun i => PyData.int (i : Nat)).length = (n : Int).toNat := by simp
      rw [this]
      exact ⟨fun _ _ hi _ => hi, fun _ _ => Nat.le_refl _, fun i _ _ _ hi _ y => ⟨by simpa using hi, y.1, y.2⟩⟩) (fun _ _ => trivial) fun i H3 x H4 e3 yy => ?_⟩
    obtain ⟨hi', rfl, rfl⟩ := yy
    have e0 : (0 : Int) + (i : Int) = (i : Int) := Int.zero_add _
    refine ⟨Ex.refl _, .int (i : Nat), ?_, by show Im H4 (.int ((0 : Int) + (i : Int))) _; rw [e0]; exact .int _⟩
    have hi := hi'
    simp [hi]
/-- THE FOR: Pv by the turn, the slots, the heap; a turn may change what stands at M -/
theorem s_forM {wi : TI} {src : List PyData} (M : List Addr) (hk : WkM M wi σ H src) (Pv : Nat → L2.St → Hp → Prop) (h0 : ∀ H1, Ex H H1 → Pv 0 σ H1)
    (hm : ∀ i σ' H1 H2, Pv i σ' H1 → Ex H1 H2 → Pv i σ' H2)
    (hs : ∀ i d x σ' H3 H4, src[i]? = some d → Ex H3 H4 → Im H4 x d → Pv i σ' H4 → g x σ' H4 fun σ2 H5 => tu { D with nx := fun σ3 H6 => Pv (i + 1) σ3 H6 ∧ ExM M H3 H6, ct := fun σ3 H6 => Pv (i + 1) σ3 H6 ∧ ExM M H3 H6, bk := D.nx } σ2 H5)
    (hd : ∀ σ' H', Pv src.length σ' H' → D.nx σ' H') : tFor wi g tu D σ H := by
  refine hk H (Ex.refl H) _ fun J H2 G Y e2 W hG hY => ?_
  refine ⟨fun i m σ' H' => m = src.length - i ∧ i ≤ src.length ∧ Pv i σ' H' ∧ ExM M H2 H', ⟨src.length, by simp, Nat.zero_le _, h0 H2 e2, ExM.refl M H2⟩, ?_⟩
  rintro i m σ' H3 ⟨rfl, hi, p, e3⟩
  by_cases hlt : i < src.length
  · refine .inr ⟨W.goes i H3 hlt (hG H3 e3), fun σ3 H6 => Pv (i + 1) σ3 H6 ∧ ExM M H3 H6, fun σ3 H6 q => ⟨src.length - (i + 1), by omega, rfl, hlt, q.1, e3.trans q.2⟩, fun x H4 y => ?_⟩
    obtain ⟨e34, d, hd', im⟩ := hY i H3 x H4 e3 (W.yields i H3 x H4 hlt (hG H3 e3) y)
    exact hs i d x σ' H3 H4 hd' e34 im (hm i σ' H3 H4 p e34)
  · have e : i = src.length := by omega
    subst e
    exact .inl ⟨W.stops H3 (hG H3 e3), hd σ' H3 p⟩
theorem q_forM {wi : TI} {src : List PyData} (M : List Addr) (hk : WkM M wi σ H src) (Pv : Nat → L2.St → Hp → Prop) (h0 : ∀ H1, Ex H H1 → Pv 0 σ H1)
    (hm : ∀ i σ' H1 H2, Pv i σ' H1 → Ex H1 H2 → Pv i σ' H2)
    (hs : ∀ i d x σ' H3 H4, src[i]? = some d → Ex H3 H4 → Im H4 x d → Pv i σ' H4 → g x σ' H4 fun σ2 H5 => tu { D with nx := fun σ3 H6 => Pv (i + 1) σ3 H6 ∧ ExM M H3 H6, ct := fun σ3 H6 => Pv (i + 1) σ3 H6 ∧ ExM M H3 H6, bk := tz D } σ2 H5)
    (hd : ∀ σ' H', Pv src.length σ' H' → tz D σ' H') : tSeq (tFor wi g tu) tz D σ H := s_forM (D := { D with nx := tz D }) M hk Pv h0 hm hs hd
/-- a pair's names -/
theorem g_pair {i j : Nat} {x : V} {d1 d2 : PyData} {R : L2.St → Hp → Prop} (h : Im H x (.tuple [d1, d2])) (k : ∀ a b, Im H a d1 → Im H b d2 → R ((σ.set i (some a)).set j (some b)) H) : gTup K 2 (gCons (gName i) (gCons (gName j) gNil)) x σ H R := by
  obtain ⟨p, xs, rfl, g1, g2⟩ := h.t
  obtain ⟨a, b, rfl, ia, ib⟩ := g2.two
  exact ⟨p, [a, b], rfl, SqT.of g1, rfl, a, [b], rfl, b, [], rfl, rfl, k a b ia ib⟩
end
end Pd
set_option Elab.async false
set_option linter.all false
set_option maxRecDepth 100000
set_option maxHeartbeats 2000000
/-! Cal: defs of the text by name, their promises, and their calls. -/
namespace Pd
open PySem PySem.Spec PyProof.Rows L2 Evl
/-- a def that stands behind a name, its promise kept -/
structure Cal (P : Program) (w : World) (K : PySem.W.Frag) (mg : Str → Option Value) (base : Heap) (CX : CXT) (k : Nat) (x : Str) (ps : List Str) (sp : Sp) : Prop where
  ex : ∃ (f : Addr) (fd : FuncData), mg x = some (.ref f) ∧ PySem.W.keepIn K (.ref f) = true ∧ Binds K fd ps [] ∧ FnOk P w K mg base CX k f fd ps sp
/-- a def of the text that stands behind its name -/
structure Src (K : PySem.W.Frag) (mg : Str → Option Value) (x : Str) (st : Stmt) (ps : List Str) : Prop where
  ex : ∃ (f : Addr) (fd : FuncData), mg x = some (.ref f) ∧ Fun K x x st f fd ∧ Binds K fd ps []
section
variable {P : Program} {w : World} {K : PySem.W.Frag} {mg : Str → Option Value} {base : Heap}
theorem Src.cal {x : Str} {st : Stmt} {N ps : List Str} {k : Nat} {sp : Sp} (F : Src K mg x st ps) (S : FnScope N ps (defScope st)) (len : ∀ vs H Q E, sp vs H Q E → vs.length = ps.length)
    (hbody : ∀ (f : Addr) (cdv : Value) (A : Around) (outer : List Env) (s : Shared) (H : Hp) (vs : List V) (Q : VK) (E : XK), Room k (A.deeper (envOfC x (defScope st) s.heap.objs.size f cdv)) → sp vs H Q E →
      ∃ t, PSs (cxOf CX0 P w K mg base N x (defScope st) f cdv A outer s H E).nox (defBody st) t ∧ t { nx := fun _ H' => Q .non H', rt := Q } (start N vs) H) : Cal P w K mg base CX0 (k + 1) x ps sp := by
  obtain ⟨f, fd, hm, hF, hb⟩ := F.ex
  exact ⟨f, fd, hm, hF.kp, hb, hF.ok S len fun cdv A outer s H vs Q E => hbody f cdv A outer s H vs Q E⟩
theorem Src.calX {x : Str} {st : Stmt} {N ps : List Str} {k : Nat} {sp : Sp} (F : Src K mg x st ps) (S : FnScope N ps (defScope st)) (len : ∀ vs H Q E, sp vs H Q E → vs.length = ps.length)
    (hbody : ∀ (f : Addr) (cdv : Value) (A : Around) (outer : List Env) (s : Shared) (H : Hp) (vs : List V) (Q : VK) (E : XK), Room k (A.deeper (envOfC x (defScope st) s.heap.objs.size f cdv)) → sp vs H Q E →
      ∃ t, PSs (cxOf (L2.CX P w) P w K mg base N x (defScope st) f cdv A outer s H E) (defBody st) t ∧ t { nx := fun _ H' => Q .non H', rt := Q } (start N vs) H) : Cal P w K mg base (L2.CX P w) (k + 1) x ps sp := by
  obtain ⟨f, fd, hm, hF, hb⟩ := F.ex
  exact ⟨f, fd, hm, hF.kp, hb, hF.okX S len fun cdv A outer s H vs Q E => hbody f cdv A outer s H vs Q E⟩
end
section
variable {X : Cx} {CX : CXT} {k : Nat} {ps : List Str} {sp : Sp} {E : XK} {x : Str} {p pos : Pos} {e : Expr} {es : List Expr} {t : TA}
theorem pe_cal (C : Cal X.prog X.w X.K X.mg X.base CX k x ps sp) (hr : Room k X.A) (hg : Gl X x) (hx : Passes CX X E)
    (ha : PA X (e :: es) t) (hdb : (x == ("__debug__" : Str)) = false := by decide) (he : starEach (e :: es) X.env = (false, eval e X.env) :: starEach es X.env := by rfl) (hpl : (backTo pos (starEach es X.env)).any (·.1) = false := by rfl) :
    PE X (.Call (.Name x p) (e :: es) [] pos) (tCall sp [] E t) := by
  obtain ⟨f, fd, hm, hk, hb, F⟩ := C.ex
  exact pe_call F hr hg hm hk hb .nil hx ha hdb he hpl
theorem pe_calS {W : WX} (C : Cal X.prog X.w X.K X.mg X.base (L2.CX X.prog X.w) k x ps sp) (hr : Room k X.A) (hg : Gl X x) (tk : Takes X W)
    (ha : PA X (e :: es) t) (hdb : (x == ("__debug__" : Str)) = false := by decide) (he : starEach (e :: es) X.env = (false, eval e X.env) :: starEach es X.env := by rfl) (hpl : (backTo pos (starEach es X.env)).any (·.1) = false := by rfl) :
    PE X (.Call (.Name x p) (e :: es) [] pos) (tCallS sp (WE W) t) := by
  obtain ⟨f, fd, hm, hk, hb, F⟩ := C.ex
  exact pe_callS F hr hg hm hk hb (fun σ => passAt tk σ) ha hdb he hpl
end
/-! ### slots -/
section
variable {K : PySem.W.Frag} {σ : L2.St} {H H' : Hp} {ta tb te tx tl to : TE} {t u : TT} {d : PyData}
theorem s_whenD {b : Bool} {D : Ends} {tu tz : TS} (h : EvT t σ H b) (h1 : b = true → ∀ H1, Ex H H1 → tu { D with nx := tz D } σ H1) (h2 : b = false → ∀ H1, Ex H H1 → tz D σ H1) : tSeq (tIfS t tu tNext) tz D σ H := q_when h h1 h2
end
end Pd
namespace Pd
open PySem PySem.Spec PyProof.Rows L2 Evl
section
variable {X : Cx}
theorem pe_gl {x : Str} {v : V} {pos : Pos} (hg : Gl X x) (hm : ∃ u, X.mg x = some u ∧ RelV v u) (hd : (x == ("__debug__" : Str)) = false := by decide) : PE X (.Name x pos) (tC v) := by
  obtain ⟨u, h1, h2⟩ := hm
  exact pe_glob hg h1 h2 hd
end
end Pd
namespace Pd
open L2
@[simp] theorem kt_NoneType_str : kitB "NoneType" "str" = some false := by decide +kernel
@[simp] theorem kt_NoneType_tuple : kitB "NoneType" "tuple" = some false := by decide +kernel
@[simp] theorem kt_NoneType_int : kitB "NoneType" "int" = some false := by decide +kernel
@[simp] theorem kt_NoneType_bool : kitB "NoneType" "bool" = some false := by decide +kernel
@[simp] theorem kt_NoneType_list : kitB "NoneType" "list" = some false := by decide +kernel
@[simp] theorem kt_NoneType_dict : kitB "NoneType" "dict" = some false := by decide +kernel
@[simp] theorem kt_bool_str : kitB "bool" "str" = some false := by decide +kernel
@[simp] theorem kt_bool_tuple : kitB "bool" "tuple" = some false := by decide +kernel
@[simp] theorem kt_bool_int : kitB "bool" "int" = some true := by decide +kernel
@[simp] theorem kt_bool_bool : kitB "bool" "bool" = some true := by decide +kernel
@[simp] theorem kt_bool_list : kitB "bool" "list" = some false := by decide +kernel
@[simp] theorem kt_bool_dict : kitB "bool" "dict" = some false := by decide +kernel
@[simp] theorem kt_int_str : kitB "int" "str" = some false := by decide +kernel
@[simp] theorem kt_int_tuple : kitB "int" "tuple" = some false := by decide +kernel
@[simp] theorem kt_int_int : kitB "int" "int" = some true := by decide +kernel
@[simp] theorem kt_int_bool : kitB "int" "bool" = some false := by decide +kernel
@[simp] theorem kt_int_list : kitB "int" "list" = some false := by decide +kernel
@[simp] theorem kt_int_dict : kitB "int" "dict" = some false := by decide +kernel
@[simp] theorem kt_str_str : kitB "str" "str" = some true := by decide +kernel
@[simp] theorem kt_str_tuple : kitB "str" "tuple" = some false := by decide +kernel
@[simp] theorem kt_str_int : kitB "str" "int" = some false := by decide +kernel
@[simp] theorem kt_str_bool : kitB "str" "bool" = some false := by decide +kernel
@[simp] theorem kt_str_list : kitB "str" "list" = some false := by decide +kernel
@[simp] theorem kt_str_dict : kitB "str" "dict" = some false := by decide +kernel
@[simp] theorem kt_list_str : kitB "list" "str" = some false := by decide +kernel
@[simp] theorem kt_list_tuple : kitB "list" "tuple" = some false := by decide +kernel
@[simp] theorem kt_list_int : kitB "list" "int" = some false := by decide +kernel
@[simp] theorem kt_list_bool : kitB "list" "bool" = some false := by decide +kernel
@[simp] theorem kt_list_list : kitB "list" "list" = some true := by decide +kernel
@[simp] theorem kt_list_dict : kitB "list" "dict" = some false := by decide +kernel
@[simp] theorem kt_tuple_str : kitB "tuple" "str" = some false := by decide +kernel
@[simp] theorem kt_tuple_tuple : kitB "tuple" "tuple" = some true := by decide +kernel
@[simp] theorem kt_tuple_int : kitB "tuple" "int" = some false := by decide +kernel
@[simp] theorem kt_tuple_bool : kitB "tuple" "bool" = some false := by decide +kernel
@[simp] theorem kt_tuple_list : kitB "tuple" "list" = some false := by decide +kernel
@[simp] theorem kt_tuple_dict : kitB "tuple" "dict" = some false := by decide +kernel
@[simp] theorem kt_dict_str : kitB "dict" "str" = some false := by decide +kernel
@[simp] theorem kt_dict_tuple : kitB "dict" "tuple" = some false := by decide +kernel
@[simp] theorem kt_dict_int : kitB "dict" "int" = some false := by decide +kernel
@[simp] theorem kt_dict_bool : kitB "dict" "bool" = some false := by decide +kernel
@[simp] theorem kt_dict_list : kitB "dict" "list" = some false := by decide +kernel
@[simp] theorem kt_dict_dict : kitB "dict" "dict" = some true := by decide +kernel
end Pd
namespace Pd
open PySem PySem.Spec PyProof.Rows L2 Evl
/-! ### the rules with the written part K named -/
section
variable {X : Cx} {K : PySem.W.Frag} (hK : X.K = K)
include hK
theorem k_in_seq : OpR X (compareOp .In) (rIn K false) := by subst hK; exact op_in_seq
theorem k_notIn_seq : OpR X (compareOp .NotIn) (rIn K true) := by subst hK; exact op_notIn_seq
theorem k_eqD (hu : X.A.units + 64 < cLine) : OpR X (compareOp .Eq) (rEqD K) := by subst hK; exact op_eqD hu
theorem k_neD (hu : X.A.units + 64 < cLine) : OpR X (compareOp .NotEq) (rNeD K) := by subst hK; exact op_neD hu
theorem k_catA : OpR X (binaryOp .Add) (rCatA K) := by subst hK; exact op_catA
theorem k_isi : CallR X (.builtin "isinstance") (rIsi K) := by subst hK; exact call_isi
theorem k_len_seq : CallR X (.builtin "len") (rLenS K) := by subst hK; exact call_len_seq
theorem k_all (hc : X.calm = true) : CallR X (.builtin "all") (rAll K) := by subst hK; exact cr_all hc
theorem k_any (hc : X.calm = true) : CallR X (.builtin "any") (rAny K) := by subst hK; exact cr_any hc
theorem k_tuple_of : CallR X (.type "tuple") (rTupOf K) := by subst hK; exact call_tuple_of
theorem k_list_of : CallR X (.type "list") (rLstOf K) := by subst hK; exact call_list_of
theorem k_sortedS : CallR X (.builtin "sorted") (rSortedS K) := by subst hK; exact cr_sortedS
theorem k_ix_list : IxR X (rIxL K) := by subst hK; exact ix_list
theorem k_ix_tup : IxR X (rIxT K) := by subst hK; exact ix_tup
theorem k_sl_list : SlR X (rSlL K) := by subst hK; exact sl_list
theorem k_sl_tupA : SlR X (rSlA K) := by subst hK; exact sl_tupA
theorem k_pi_list {tg l : Expr} {tl : TE} (hl : PE X l tl) : PI X tg l (iList K tl) := by subst hK; exact pi_list hl
theorem k_pi_tup {tg l : Expr} {tl : TE} (hl : PE X l tl) : PI X tg l (iTup K tl) := by subst hK; exact pi_tup hl
theorem k_pi_zipA {e e2 : Expr} {ta : TA} {p pos tpos : Pos} {elts : List Expr} {kk : Nat} (hg : Gl X "zip") (hm : X.mg "zip" = none) (ha : PA X [e, e2] ta)
    (hs : starEach [e, e2] X.env = (false, eval e X.env) :: starEach [e2] X.env := by rfl) (hpl : (backTo pos (starEach [e2] X.env)).any (·.1) = false := by rfl) :
    PI X (.Tuple elts kk tpos) (.Call (.Name "zip" p) [e, e2] [] pos) (RZ.iZipA K ta) := by subst hK; exact RZ.pi_zipA hg hm ha hs hpl
theorem k_pi_enum {e : Expr} {ta : TA} {p pos tpos : Pos} {elts : List Expr} {kk : Nat} (hg : Gl X "enumerate") (hm : X.mg "enumerate" = none) (ha : PA X [e] ta) (hs : starEach [e] X.env = [(false, eval e X.env)] := by rfl) :
    PI X (.Tuple elts kk tpos) (.Call (.Name "enumerate" p) [e] [] pos) (iEnum K ta) := by subst hK; exact pi_enum hg hm ha hs
theorem k_pg_tup {es : List Expr} {k : Nat} {pos : Pos} {t : TGs} {n : Nat} (hc : X.calm = true) (h : PGs X es t) (hn : (assignEach es X.env).length = n := by rfl) (hst : (assignEach es X.env).findIdx? (·.1) = none := by rfl) : PG X (.Tuple es k pos) (gTup K n t) := by subst hK; exact pg_tup hc h hn hst
theorem k_join {o e : Expr} {to te : TE} {apos pos : Pos} (ho : PE X o to) (he : PE X e te) (hs : starEach [e] X.env = [(false, eval e X.env)] := by rfl) (hbase : attributeBase o "join" X.env (eval o X.env) = eval o X.env := by rfl) (hline : (apos.endLine == pos.line) = true := by rfl) :
    PE X (.Call (.Attribute o "join" apos) [e] [] pos) (tM1 (rJoin K) to te) := by subst hK; exact pe_join ho he hs hbase hline
theorem k_append {o e : Expr} {es : List Expr} {to : TE} {t : TA} {apos cpos : Pos} (ho : PE X o to) (ha : PA X (e :: es) t)
    (hbase : attributeBase o "append" X.env (eval o X.env) = eval o X.env := by rfl)
    (hfew : ((backTo cpos (starEach (e :: es) X.env)).all (fun x => !x.1) && (backToKw cpos (keywordEach [] X.env)).all (fun x => x.1.isSome)
      && decide ((e :: es).length + ([] : List Keyword).length + (if ([] : List Keyword).isEmpty then 0 else 1) < 30)) = true := by rfl)
    (hline : (apos.endLine == cpos.line) = true := by rfl)
    (hs : starEach (e :: es) X.env = (false, eval e X.env) :: starEach es X.env := by rfl) (hpl : (backTo cpos (starEach es X.env)).any (·.1) = false := by rfl) :
    PE X (.Call (.Attribute o "append" apos) (e :: es) [] cpos) (tBM K "list" rAppend to t) := by subst hK; exact pe_bm PySem.F.plainAttrs_list PySem.F.slot_list_append PySem.F.type_list_append mt_append ho ha hbase hfew hline hs hpl
theorem k_pop {o e : Expr} {es : List Expr} {to : TE} {t : TA} {apos cpos : Pos} (ho : PE X o to) (ha : PA X (e :: es) t)
    (hbase : attributeBase o "pop" X.env (eval o X.env) = eval o X.env := by rfl)
    (hfew : ((backTo cpos (starEach (e :: es) X.env)).all (fun x => !x.1) && (backToKw cpos (keywordEach [] X.env)).all (fun x => x.1.isSome)
      && decide ((e :: es).length + ([] : List Keyword).length + (if ([] : List Keyword).isEmpty then 0 else 1) < 30)) = true := by rfl)
    (hline : (apos.endLine == cpos.line) = true := by rfl)
    (hs : starEach (e :: es) X.env = (false, eval e X.env) :: starEach es X.env := by rfl) (hpl : (backTo cpos (starEach es X.env)).any (·.1) = false := by rfl) :
    PE X (.Call (.Attribute o "pop" apos) (e :: es) [] cpos) (tBM K "list" rPopAt to t) := by subst hK; exact pe_bm PySem.F.plainAttrs_list PySem.F.slot_list_pop PySem.F.type_list_pop mt_popAt ho ha hbase hfew hline hs hpl
end
end Pd
set_option Elab.async false
set_option linter.all false
set_option maxRecDepth 100000
set_option maxHeartbeats 2000000
/-! Xc: own exceptions. -/
namespace Pd
open PySem PySem.Spec PyProof.Rows L2 Evl
/-- an own class over ValueError (perhaps through others) without own __init__ -/
structure XCls (K : PySem.W.Frag) (mg : Str → Option Value) (x : Str) (C : Addr) : Prop where
  g : mg x = some (.ref C)
  x : PySem.W.excIn K C [.type "ValueError", .type "Exception", .type "BaseException", .type "object"] "ValueError.__new__" = true
  keep : PySem.W.keepIn K (.ref C) = true
  sub : PySem.W.subIn K (.ref C) (.type "BaseException") = some true
  ty : PySem.W.typeIn K (.ref C) = some (.type "type")
  is : PySem.W.isClsIn K C = true
  self : PySem.W.subIn K (.ref C) (.ref C) = some true
/-- an own class over ValueError with an __init__ that stores one field f -/
structure XFld (K : PySem.W.Frag) (mg : Str → Option Value) (x f : Str) (C : Addr) : Prop where
  g : mg x = some (.ref C)
  o : OexC K C
  xf : XfC K C
  nf : PySem.W.findIn K (.ref C) f = some none
  is : PySem.W.isClsIn K C = true
  self : PySem.W.subIn K (.ref C) (.ref C) = some true
theorem exm_self {K : PySem.W.Frag} {S : Addr} (h1 : PySem.W.subIn K (.ref S) (.type "BaseException") = some true) (h2 : PySem.W.isClsIn K S = true) (h3 : PySem.W.typeIn K (.ref S) = some (.type "type")) (h4 : PySem.W.subIn K (.ref S) (.ref S) = some true) :
    PySem.W.exmOne K (.ref S) (.ref S) = some true := by
  have e1 : (PySem.W.subIn K (.ref S) (.type "BaseException") == some true) = true := by rw [h1] <;> rfl
  have e2 : ((PySem.W.clsIn K S).isSome && PySem.W.typeIn K (.ref S) == some (.type "type")) = true := by
    have h2' : (PySem.W.clsIn K S).isSome = true := h2
    rw [h2', h3] <;> rfl
  show (if (PySem.W.subIn K (.ref S) (.type "BaseException") == some true) = true then (if ((PySem.W.clsIn K S).isSome && PySem.W.typeIn K (.ref S) == some (.type "type")) = true then PySem.W.subIn K (.ref S) (.ref S) else none) else none) = some true
  rw [if_pos e1, if_pos e2]
  exact h4
theorem XCls.exm {K : PySem.W.Frag} {mg : Str → Option Value} {x : Str} {C : Addr} (T : XCls K mg x C) : PySem.W.exmOne K (.ref C) (.ref C) = some true := exm_self T.sub T.is T.ty T.self
theorem XFld.exm {K : PySem.W.Frag} {mg : Str → Option Value} {x f : Str} {C : Addr} (T : XFld K mg x f C) : PySem.W.exmOne K (.ref C) (.ref C) = some true := exm_self T.o.exC T.is T.o.tyC T.self
section
variable {X : Cx} {x f : Str} {C : Addr} {p pos : Pos} {e : Expr} {ta : TA}
/-- C() -/
theorem pmk_x (T : XCls X.K X.mg x C) (hg : Gl X x) (hdb : (x == ("__debug__" : Str)) = false := by decide) : PMk X (.Call (.Name x p) [] [] pos) (fun _ H Q => Q (.ref C) none H) := by
  intro pins s σ H Q I h
  refine wpAny_Call_Name_kw (ld_glob I hg T.g ?_ hdb)
  refine PySem.W.callWith_K0 I.kIn T.keep ?_
  show wpAny _ _ (call (.ref C) []) _ _ _
  obtain ⟨bm, N, nm, qn, bs, hdct, sn, sub, ab, col, dd, k0, k1, k2, k3, k5, mN, hC, hN, hni, TT⟩ := exc_obj I.kIn T.x
  exact wpAny_call_exc_subT PySem.F.excBase_ValueError TT hC hN hni (fun h' e hm => mk_of I hm (raises_own T.sub T.ty) h (I.hok.gone hm.new)) (Nat.zero_le _)
/-- C(e, ..) without own __init__ -/
theorem pmk_xa {es : List Expr} (T : XCls X.K X.mg x C) (hg : Gl X x) (ha : PA X (e :: es) ta) (hdb : (x == ("__debug__" : Str)) = false := by decide)
    (he : starEach (e :: es) X.env = (false, eval e X.env) :: starEach es X.env := by rfl) (hpl : (backTo pos (starEach es X.env)).any (·.1) = false := by rfl) :
    PMk X (.Call (.Name x p) (e :: es) [] pos) (fun σ H Q => ta σ H fun vs H1 => vs.length ≤ sizeLine ∧ Q (.ref C) none H1) :=
  pmk_ownA PySem.F.excBase_ValueError T.x T.g T.keep (raises_own T.sub T.ty) hg ha hdb he hpl
/-- the promise of an __init__ that stores its one argument: self.f = v -/
def sp_fld (C : Addr) (f : Str) : Sp := fun vs H Q _ => ∃ (a : Addr) (v : V), vs = [.ref a, v] ∧ H a = some (exo a C none) ∧
  ∀ dx, H dx = none → dx ≠ a → Q .non (upd (upd H dx (exd dx [(f, v)])) a (exo a C (some dx)))
/-- C(e): the exception's own dict holds the field -/
theorem pmk_f {k : Nat} {fI : Addr} {fd : FuncData} (T : XFld X.K X.mg x f C) (iC : PySem.W.findIn X.K (.ref C) "__init__" = some (some (.ref fI))) (tI : PySem.W.typeIn X.K (.ref fI) = some (.type "function"))
    (F1 : FnOk X.prog X.w X.K X.mg X.base CX0 k fI fd ["self", f] (sp_fld C f)) (hb : Binds X.K fd ["self", f] []) (hr : Room (k + 1) X.A) (hg : Gl X x) (ha : PA X [e] ta) (hdb : (x == ("__debug__" : Str)) = false := by decide)
    (he : starEach [e] X.env = (false, eval e X.env) :: starEach [] X.env := by rfl) (hpl : (backTo pos (starEach [] X.env)).any (·.1) = false := by rfl) :
    PMk X (.Call (.Name x p) [e] [] pos) (tMkO C (sp_fld C f) [] ta) := pmk_oex T.o iC tI F1 hr hb .nil pass0 hg T.g ha hdb he hpl
theorem mk_f {σ : L2.St} {H : Hp} {d : PyData} {Q : XK} (h : EvDs ta σ H [d]) (k : ∀ v dd H2, Ex H H2 → Im H2 v d → H2 dd = some (.xd [(f, v)]) → Q (.ref C) (some dd) H2) : tMkO C (sp_fld C f) [] ta σ H Q := by
  refine h H (Ex.refl H) _ fun vs H1 e1 iv => ?_
  obtain ⟨v, rfl, i1⟩ := iv.one
  refine ⟨by show 1 ≤ 1000; omega, fun a ha => ⟨a, v, rfl, upd_same, fun dx hdx hne => ⟨rfl, dx, [(f, v)], upd_same, by rw [upd_ne hne, upd_same], ?_, ?_⟩⟩⟩
  · rw [upd_ne hne] at hdx; exact hdx
  · have hd1 : H1 dx = none := by rw [upd_ne hne] at hdx; exact hdx
    have e2 : Ex H1 (upd (del (upd (upd (upd H1 a (exo a C none)) dx (exd dx [(f, v)])) a (exo a C (some dx))) a) dx (.xd [(f, v)])) := fun b o hb => by
      have h1 : b ≠ a := fun z => by rw [z, ha] at hb; cases hb
      have h2 : b ≠ dx := fun z => by rw [z, hd1] at hb; cases hb
      rw [upd_ne h2, del_ne h1, upd_ne h1, upd_ne h2, upd_ne h1]
      exact hb
    exact k v dx _ (e1.trans e2) (i1.mono e2) upd_same
end
end Pd
set_option Elab.async false
set_option linter.all false
set_option maxRecDepth 100000
set_option maxHeartbeats 2000000
/-! Dr: dict(a tuple of pairs), tuple(d.items()), list.count of texts. -/
namespace Pd
open PySem PySem.Spec PyProof.Rows L2 Evl
section
variable {X : Cx} {es : List Expr} {t : TA} {pos : Pos}
/-- a tuple, a list of written items: its object is known to have no dict -/
def tTupF (t : TA) : TE := fun σ H Q => t σ H fun xs H1 => xs.length ≤ sizeLine ∧ ∀ p o, H1 p = none → o.dict = none → Q (.ref p) (upd H1 p (.frz o (.tup xs)))
theorem pe_tupF {x1} (h : PA X es t) : PE X (.Tuple es x1 pos) (tTupF t) := by
  refine ⟨fun pins s σ H Q I hq => ?_⟩
  refine wpAny_Tuple_spliced (thn (h.run pos pins s σ H _ I hq) fun us s1 ⟨xs, H1, I1, r, z, q⟩ => ⟨by rw [← r.length]; exact z, ?_⟩)
  have hf : H1 s1.heap.objs.size = none := I1.hok.fresh (Nat.le_refl _)
  refine ⟨.ref s1.heap.objs.size, upd H1 s1.heap.objs.size (.frz { cls := .type "tuple", data := .seq us.toArray } (.tup xs)), I1.laid (t' := s1.toks) (fun b u e => Heap.get?_push_of_some _ e) (Nat.le_refl _) ?_, rfl, q _ _ hf rfl⟩
  exact ⟨Heap.get?_push_size _ rfl, z, us, r, ⟨_, Heap.get?_push_size _ rfl, rfl, _, rfl⟩⟩
/-- t + u: a new one has no dict -/
def rCatF (K : PySem.W.Frag) : R2 := fun x y H Q => ∃ a b xs ys, x = .ref a ∧ y = .ref b ∧ SqT K H a xs ∧ SqT K H b ys ∧ xs.length + ys.length ≤ sizeLine ∧
  (xs = [] → Q (.ref b) H) ∧ (xs ≠ [] → ys = [] → Q (.ref a) H) ∧ (xs ≠ [] → ys ≠ [] → ∀ p o, H p = none → o.dict = none → Q (.ref p) (upd H p (.frz o (.tup (xs ++ ys)))))
theorem k_catF {K : PySem.W.Frag} (hK : X.K = K) : OpR X (binaryOp .Add) (rCatF K) := by
  subst hK
  intro pins s σ H x y v u Q I rx ry h
  obtain ⟨a, b, xs, ys, rfl, rfl, ha, hb, hz, q0, q1, q2⟩ := h
  cases rx
  cases ry
  obtain ⟨its, r1, p1, _⟩ := I.tuple ha
  obtain ⟨its2, r2, p2, _⟩ := I.tuple hb
  by_cases hx : xs = []
  · subst hx
    cases r1
    exact cat_tup0 p1 p2 ⟨.ref b, H, I, rfl, q0 rfl⟩
  · have hi : its ≠ [] := fun z => hx (r1.nil_iff.mp z)
    refine HT.cat_tup p1 p2 hi (fun z => ⟨.ref a, H, I, rfl, q1 hx (r2.nil_iff.mp z)⟩) (fun z => ?_) (by rw [← r1.length, ← r2.length]; exact hz)
    have hy : ys ≠ [] := fun e => z (r2.nil_iff.mpr e)
    refine ⟨.ref s.heap.objs.size, upd H s.heap.objs.size (.frz { cls := .type "tuple", data := .seq (its ++ its2).toArray } (.tup (xs ++ ys))), I.laid (t' := s.toks) (fun b u e => Heap.get?_push_of_some _ e) (Nat.le_refl _) ?_, rfl, q2 hx hy _ _ (I.hok.fresh (Nat.le_refl _)) rfl⟩
    exact ⟨Heap.get?_push_size _ rfl, by rw [List.length_append]; exact hz, its ++ its2, r1.append r2, ⟨_, Heap.get?_push_size _ rfl, rfl, _, rfl⟩⟩
theorem pairs_of2 {pins : List (Addr × Obj)} {σ : L2.St} {H : Hp} {s : Shared} (I : Inv X pins σ H s) : ∀ {ps : List Addr} {kvs : List (Key × V)}, Paired (fun p kv => SqT X.K H p [kV kv.1, kv.2]) ps kvs →
    ∃ (prs : List (Key × Value)) (pvs : List (Value × Value)), KV kvs prs ∧ prs.length = ps.length ∧ pvs.length = ps.length ∧ ∀ (j : Nat) (q : Value × Value), pvs[j]? = some q → ∃ (b : Addr) (k : Key), ps[j]? = some b ∧ IsTup s.heap b #[q.1, q.2] ∧ prs[j]? = some (k, q.2) ∧ keyIs k q.1 = true
  | _, _, .nil => ⟨[], [], .nil, rfl, rfl, fun j q e => by simp at e⟩
  | _, _, .cons (a := p) (b := kv) h t => by
    obtain ⟨prs, pvs, r, hl, hl2, hp⟩ := pairs_of2 I t
    obtain ⟨its, rv, ht, _⟩ := I.tuple h
    obtain ⟨u, y, ei, ru, ry⟩ := vals2 rv
    subst ei
    refine ⟨(kv.1, y) :: prs, (u, y) :: pvs, .cons ⟨rfl, ry⟩ r, by rw [List.length_cons, List.length_cons, hl], by rw [List.length_cons, List.length_cons, hl2], fun j q e => ?_⟩
    cases j with
    | zero =>
      have e' : (u, y) = q := Option.some.inj e
      subst e'
      exact ⟨p, kv.1, rfl, ht, rfl, kV_is (P := X.prog) (w := X.w) ru⟩
    | succ j =>
      obtain ⟨b, k, e1, e2, e3, e4⟩ := hp j q (by simpa using e)
      exact ⟨b, k, by simpa using e1, e2, by simpa using e3, e4⟩
/-- dict(t) of a tuple of pairs (key, value) -/
def rDictF (K : PySem.W.Frag) : List V → Hp → VK → Prop := fun xs H Q => ∃ (a : Addr) (o : Obj) (ps : List Addr) (kvs : List (Key × V)), xs = [.ref a] ∧ H a = some (.frz o (.tup (ps.map V.ref))) ∧ o.dict = none ∧ Paired (fun p kv => SqT K H p [kV kv.1, kv.2]) ps kvs ∧
    ∀ p, H p = none → Q (.ref p) (upd H p (.dK (mergeK [] kvs)))
theorem k_dictF {K : PySem.W.Frag} (hK : X.K = K) (hcalm : X.calm = true) : CallR X (.type "dict") (rDictF K) := by
  subst hK
  intro pins s σ H xs us Q I r q
  obtain ⟨a, o, ps, kvs, ex, hq, hod, hp, q⟩ := q
  subst ex
  obtain ⟨u, eu, rx⟩ := vals1 r
  subst eu
  cases rx
  obtain ⟨ho, hz, its, rv, ⟨o2, ho2, hc, n, hd⟩⟩ := I.hok a _ hq
  rw [ho] at ho2
  cases ho2
  have ei := refs_at rv
  subst ei
  rw [List.length_map] at hz
  obtain ⟨prs, pvs, rel, hl, hl2, hpr⟩ := pairs_of2 I hp
  refine PySem.call_dict_pairs (knd := mixKind X.prog X.w) (kvs := prs) (PairArg.tuple a (ps.map Value.ref).toArray (fun j => ps.getD j 0) pvs) (I.ok.hd hcalm) ⟨⟨o, n, ho, hc, hod, hd⟩, by simp [hl2], fun j k v e => ?_⟩ ⟨by rw [hl, hl2], fun i key v e => ?_⟩ (by rw [hl2]; exact hz) fun h' tk hd' k => ?_
  · obtain ⟨b, kk, e1, e2, e3, e4⟩ := hpr j (k, v) e
    have eb : ps.getD j 0 = b := by simp [List.getD, e1]
    show _ ∧ _
    dsimp only
    rw [eb]
    exact ⟨by simp [e1], .inl e2⟩
  · obtain ⟨b, kk, e1, e2, e3, e4⟩ := hpr i (key, v) e
    exact ⟨kk, e3, e4⟩
  · have hm : (s.heap.objs.size == sysModules) = false := beq_eq_false_iff_ne.mpr (Nat.ne_of_gt I.big)
    have hlen : (mergeK [] kvs).length ≤ sizeLine := by
      refine Nat.le_trans (length_mergeK kvs []) ?_
      rw [List.length_nil, Nat.zero_add, rel.length, hl]
      exact hz
    exact ⟨.ref s.heap.objs.size, upd H s.heap.objs.size (.dK (mergeK [] kvs)), I.laid (t' := tk) (fun b o e => k b o (by simp) e) (Nat.le_refl _) (show ObjOk X.prog X.w _ _ _ (.dK (mergeK [] kvs)) from ⟨hlen, hm, merged [] prs, KV.merge rel .nil, hd'⟩), rfl, q _ (I.hok.fresh (Nat.le_refl _))⟩
/-- xs.count(t) of a list of texts -/
def rCntS (K : PySem.W.Frag) : V → List V → Hp → VK → Prop := fun x xs H Q => ∃ (p : Addr) (ns : List Str) (k : Str), x = .ref p ∧ xs = [.str k] ∧ SqL K H p (ns.map V.str) ∧ Q (.int (ns.countP fun n => decide (n = k) : Nat)) H
theorem countP_eqU {x : V} : ∀ {xs : List V} {us : List Value}, Vals xs us → xs.all flatV = true → us.countP (eqU x) = xs.countP fun y => eqV y x
  | _, _, .nil, _ => rfl
  | y :: xs, u :: us, .cons r t, f => by
    rw [List.all_cons, Bool.and_eq_true] at f
    rw [List.countP_cons, List.countP_cons, eqU_of r f.1, countP_eqU t f.2]
theorem mt_lcountS : MtR X "list.count" (rCntS X.K) := by
  intro pins s σ H x xs v us Q I rx rxs h
  obtain ⟨p, ns, k, rfl, rfl, hs, q⟩ := h
  cases rx
  obtain ⟨u, rfl, ru⟩ := rxs.one
  obtain ⟨its, rv, ⟨⟨cls, dd, data, sl⟩, n, ho, hc, hdn, hd⟩, hlen⟩ := I.list hs
  simp only at hc hd
  subst hc hd
  refine call_meets PySem.F.slot_list_count ⟨_, ho, rfl⟩ PySem.F.entry_list_count (PySem.F.args_list_count_2 _ _)
    (SeqAt.list_countAt p its.toArray n dd sl u (eqU (.str k))) ⟨ho, fun y hy => mem_eqAt ru rfl rv (flat_strs ns) y (by simpa using hy), ?_⟩
  have ec : its.toArray.toList.countP (eqU (.str k)) = ns.countP fun n => decide (n = k) := by
    show its.countP (eqU (.str k)) = _
    rw [countP_eqU rv (flat_strs ns), List.countP_map]
    refine List.countP_congr fun a _ => ?_
    show (eqV (V.str a) (.str k) = true) ↔ _
    simp [eqV]
  refine ⟨.int (ns.countP (fun n => decide (n = k)) : Nat), H, I.tok _, ⟨s.toks, ?_⟩, q⟩
  show Value.int ((its.toArray.toList.countP (eqU (.str k)) : Nat) : Int) s.toks = Value.int ((ns.countP (fun n => decide (n = k)) : Nat) : Int) s.toks
  rw [ec]
end
end Pd
set_option Elab.async false
set_option linter.all false
set_option maxRecDepth 100000
set_option maxHeartbeats 2000000
/-! Dr2: tuple(d.items()). -/
namespace Pd
open PySem PySem.Spec PyProof.Rows L2 Evl LiI
open AutoSeq1 (wpAny_loadPart')
section
variable {prog : Program} {w : World}
theorem tuple_new_items (r d : Addr) (o : Obj) (knd : PySem.KeyKind prog w Key) (kvs : List (Key × Value)) (ep : Nat) (hc : o.cls = .type "dict_items") :
    MeetsIn prog w (Builtin.«tuple.__new__» ⟨[.type "tuple", .ref r], []⟩) (fun A R s => A.handled = none ∧ s.heap.get? r = some o ∧ s.heap.IsItemsView r d ∧ s.heap.DictAt knd d kvs ep ∧ kvs.length ≤ sizeLine ∧
      ∀ (h' : Heap) (tk : Nat) (as : List Addr), (∀ b o, s.heap.get? b = some o → h'.get? b = some o) → as.length = kvs.length → PySem.W.KdxG knd kvs s.heap.objs.size h' as →
        R (.ok (.ret (.ref h'.objs.size))) { s with heap := h'.push { cls := .type "tuple", data := .seq (as.map Value.ref).toArray }, toks := tk }) :=
  .of_wp fun A R s h => by
    obtain ⟨hp, g, dd, tk, os⟩ := s
    obtain ⟨hh, ht, hv, hm, hn, h⟩ := h
    have hsub := sub_tuple_self
    have hinit := init_tuple_lookup
    have hmh := madeHere_tuple
    have hT : Shared.TypeIs ⟨hp, g, dd, tk, os⟩ (.ref r) "dict_items" := ⟨o, ht, hc⟩
    have col : ∀ {Q : List Value → Shared → Prop} {E : Value → Shared → Prop}, (∀ (h' : Heap) (tk : Nat) (as : List Addr), (∀ b o, hp.get? b = some o → h'.get? b = some o) → as.length = kvs.length → PySem.W.KdxG knd kvs hp.objs.size h' as → Q (as.map Value.ref) ⟨h', g, dd, tk, os⟩) → wpAny (model prog w) A.in1 (collect (.ref r)) Q E ⟨hp, g, dd, tk, os⟩ := fun q => PySem.W.kdx_collect (s := ⟨hp, g, dd, tk, os⟩) hh hv hm hn q
    obtain ⟨o2, ho2, hc2, hd2⟩ := hv
    rw [ht] at ho2
    cases ho2
    wp_walk using wpAny_loadPart' ht, wpAny_typeOf hT, col
    intro h' tk' as hk hl hG
    have hz : as.length ≤ sizeLine := by rw [hl]; exact hn
    show wpAny _ _ (Builtin.Tuple.tupleExact (as.map Value.ref).toArray >>= fun v => ret v) _ _ _
    unfold Builtin.Tuple.tupleExact
    refine wpAny_bind (wpAny_newObj_type ?_ (by show (as.map Value.ref).toArray.size ≤ sizeLine; simpa using hz))
    refine wpAny_pure ⟨_, rfl, ?_⟩
    exact h h' tk' as hk hl hG
end
/-- tuple(d.items()): the address of the tuple is the last -/
def rItemsT : V → Hp → VK → Prop := fun x H Q => ∃ (d : Addr) (kvs : List (Key × V)), x = .ref d ∧ kvs ≠ [] ∧ H d = some (.dK kvs) ∧
  ∀ (H' : Hp) (p : Addr) (ts : List Addr), (∀ b o, H b = some o → H' b = some o) → H p = none → H' p = some (.tup (ts.map V.ref)) → Paired (fun (t : Addr) (q : Key × V) => H' t = some (.tup [kV q.1, q.2])) ts kvs → Q (.ref p) H'
def tTupItems (te : TE) : TE := fun σ H Q => te σ H fun x H1 => rItemsT x H1 Q
section
variable {X : Cx} {e : Expr} {te : TE} {p apos cpos pos : Pos}
theorem items_laidT {pins : List (Addr × Obj)} {σ : L2.St} {H : Hp} {s : Shared} {h' : Heap} {tk : Nat} {kvs : List (Key × V)} {vs : List (Key × Value)} {as : List Addr} (I : Inv X pins σ H s) (hne : kvs ≠ []) (hz : kvs.length ≤ sizeLine) (kv : KV kvs vs)
    (hk : ∀ b o, s.heap.get? b = some o → h'.get? b = some o) (hl : as.length = vs.length) (hG : PySem.W.KdxG (mixKind X.prog X.w) vs s.heap.objs.size h' as) :
    ∃ H' : Hp, (∀ b o, H b = some o → H' b = some o) ∧ H h'.objs.size = none ∧ H' h'.objs.size = some (.tup (as.map V.ref)) ∧ Paired (fun (t : Addr) (q : Key × V) => H' t = some (.tup [kV q.1, q.2])) as kvs ∧ Inv X pins σ H' { s with heap := h'.push { cls := .type "tuple", data := .seq (as.map Value.ref).toArray }, toks := tk } := by
  have lk : kvs.length = vs.length := Paired.length kv
  have hsz : s.heap.objs.size ≤ h'.objs.size := by
    cases as with
    | nil => exact absurd (List.length_eq_zero_iff.mp (lk.trans hl.symm)) hne
    | cons a as => exact Nat.le_of_lt (Nat.lt_trans (hG.above a (List.mem_cons_self ..)) (hG.there (List.mem_cons_self ..)))
  have hSn : h'.objs.size ∉ as := fun z => Nat.lt_irrefl _ (hG.there z)
  have nd : as.Nodup := List.Pairwise.imp (fun {a b} (h : a < b) => Nat.ne_of_lt h) hG.rise
  have new : ∀ t ∈ as, H t = none := fun t ht => I.hok.fresh (Nat.le_of_lt (hG.above t ht))
  have newS : H h'.objs.size = none := I.hok.fresh hsz
  have atP := putT_at as kvs (upd H h'.objs.size (.tup (as.map V.ref))) (by omega) nd
  have off : ∀ b, b ∉ as → b ≠ h'.objs.size → putT (upd H h'.objs.size (.tup (as.map V.ref))) as kvs b = H b := fun b h1 h2 => by rw [putT_off as kvs _ h1, upd_ne h2]
  have low : ∀ b o, s.heap.get? b = some o → b ∉ as ∧ b ≠ h'.objs.size := fun b o e => ⟨fun z => absurd (Heap.lt_size e) (Nat.not_lt.mpr (Nat.le_of_lt (hG.above b z))), Nat.ne_of_lt (Heap.lt_size (hk b o e))⟩
  have kp : ∀ b u, H b = some u → (putT (upd H h'.objs.size (.tup (as.map V.ref))) as kvs) b = some u := fun b u e => by
    rw [off b (fun z => by rw [new b z] at e; cases e) (fun z => by rw [z, newS] at e; cases e)]
    exact e
  have eS : putT (upd H h'.objs.size (.tup (as.map V.ref))) as kvs h'.objs.size = some (.tup (as.map V.ref)) := by rw [putT_off as kvs _ hSn, upd_same]
  have hk2 : ∀ b o, s.heap.get? b = some o → (h'.push { cls := .type "tuple", data := .seq (as.map Value.ref).toArray }).get? b = some o := fun b o q => Heap.get?_push_of_some _ (hk b o q)
  refine ⟨putT (upd H h'.objs.size (.tup (as.map V.ref))) as kvs, kp, newS, eS, atP, ?_⟩
  refine I.call' (ch := []) rfl ⟨fun b o q _ _ _ => hk2 b o q, fun b o q _ _ _ => ⟨o.slots, hk2 b o q⟩, fun b o q n _ => ?_, fun b o q _ => ⟨o, hk2 b o q⟩, fun b xs q => kp b _ q, fun b o u q => kp b _ q, fun b ps q => ⟨#[], by rw [kp b _ q]; simp⟩⟩ (fun b u q => ?_) I.bare fun b z => by simp at z
  · obtain ⟨z1, z2⟩ := low b o q
    rw [off b z1 z2]
    exact n
  · by_cases hb : b ∈ as
    · obtain ⟨j, pk, e1, e2, e3⟩ := paired_ix atP hb
      rw [e3] at q
      cases q
      obtain ⟨key, k, x, f1, f2, f3⟩ := hG.pairs j b e1
      obtain ⟨qv, g1, g2, g3⟩ := L2.paired_get kv e2
      rw [f1] at g1
      cases g1
      have rk : RelV (kV pk.1) key := by
        rw [g2]
        exact relV_key (show keyIs k key = true from f2)
      exact ⟨by show 2 ≤ sizeLine; decide, [key, x], .cons rk (.cons g3 .nil), ⟨_, Heap.get?_push_of_some _ f3, rfl, _, rfl⟩⟩
    · by_cases hb2 : b = h'.objs.size
      · rw [hb2] at q ⊢
        rw [eS] at q
        cases q
        exact ⟨by rw [List.length_map]; omega, as.map Value.ref, LiI.vals_refs as, ⟨_, Heap.get?_push_size _ rfl, rfl, _, rfl⟩⟩
      · rw [off b hb hb2] at q
        exact (I.hok b u q).stay (fun d v _ y => hk2 d v y) (fun d y => kp d _ y) fun d xs y => kp d _ y
/-- tuple(e.items()) -/
theorem pe_tupItems (hc : X.calm = true) (he : PE X e te) (hg : Gl X "tuple") (hm : X.mg "tuple" = none) (hv : bootBuiltins "tuple" = some (.type "tuple")) (hbase : attributeBase e "items" X.env (eval e X.env) = eval e X.env := by rfl) (hline : (apos.endLine == cpos.line) = true := by rfl)
    (hs : starEach [.Call (.Attribute e "items" apos) [] [] cpos] X.env = (false, eval (.Call (.Attribute e "items" apos) [] [] cpos) X.env) :: starEach [] X.env := by rfl) :
    PE X (.Call (.Name "tuple" p) [.Call (.Attribute e "items" apos) [] [] cpos] [] pos) (tTupItems te) := by
  refine ⟨fun pins s σ H Q I hq => ?_⟩
  refine wpAny_Call_Name_kw (ld_blt I hg hm hv ?_)
  refine PyProof.Rows.callWith_type1 ?_ hs rfl
  rw [hs]
  show wpAny _ _ (spliced ((false, eval (.Call (.Attribute e "items" apos) [] [] cpos) X.env) :: backTo pos (starEach [] X.env))) _ _ s
  refine Calls.spliced_cons ?_
  refine wpAny_Call_method (T := "dict") (id := "dict.items") hbase rfl hline F.plainAttrs_dict F.slot_dict_items F.type_dict_items (thn (he.run pins s σ H _ I hq) fun u s1 ⟨x, H1, I1, rx, d, kvs, ex, hne, hd, q⟩ => ?_)
  subst ex
  obtain rfl : u = Value.ref d := rx
  obtain ⟨hz, hs0, vs, kv, hdo⟩ := I1.hok d _ hd
  obtain ⟨ep, hat⟩ := hdo.dictAt
  have lk : kvs.length = vs.length := Paired.length kv
  have I2 : Inv X pins σ H1 { s1 with heap := s1.heap.push { cls := .type "dict_items", data := .fields #[.ref d] } } := I1.kept (t' := s1.toks) fun b ob q => Heap.get?_push_of_some _ q
  refine ⟨hdo.typeIs, hdo.mapOf.noDict, ?_⟩
  show wpAny _ _ (callWith cpos (.builtin "dict.items") [.ref d] [] []) _ X.xe s1
  refine method_meetsIn F.slot_dict_items F.entry_dict_items rfl (PySem.evalArgs_none ⟨rfl, hdo.typeIs, F.args_dict_items_1 _, _, meets_dict_items (mixKind X.prog X.w) d hs0, ⟨vs, hdo⟩, ?_⟩)
  refine Calls.spliced_nil ?_
  have hgv : (s1.heap.push { cls := .type "dict_items", data := .fields #[.ref d] }).get? s1.heap.objs.size = some { cls := .type "dict_items", data := .fields #[.ref d] } := Heap.get?_push_size _ rfl
  refine callType_newIn F.called_tuple (by decide) (F.typeCall_tuple_1 _) (F.newCall_tuple_1 _) (fun obj => F.args_object_init_2 obj _) F.entry_tuple_new
    (tuple_new_items s1.heap.objs.size d _ (mixKind X.prog X.w) vs ep rfl) ⟨I.ok.hd hc, hgv, ⟨_, hgv, rfl, rfl⟩, hat.push _, by omega, fun h' tk as hk hl hG => ?_⟩
  obtain ⟨H', k1, k2, k3, k4, J⟩ := items_laidT (tk := tk) I2 hne hz kv hk hl hG
  exact ⟨⟨_, Heap.get?_push_size _ rfl, rfl⟩, .ref _, H', J, rfl, q H' _ as k1 k2 k3 k4⟩
end
end Pd
set_option Elab.async false
set_option linter.all false
set_option maxRecDepth 100000
set_option maxHeartbeats 2000000
/-! Dd: dict(tuple), its items, count, and answers that are known only by what holds of them. -/
namespace Pd
open PySem PyProof.Rows L2 Evl
def EvF (te : TE) (σ : L2.St) (H : Hp) (ds : List PyData) : Prop := ∀ H1, Ex H H1 → ∀ Q : VK, (∀ p o xs H2, Ex H1 H2 → H2 p = some (.frz o (.tup xs)) → o.dict = none → Ims H2 xs ds → Q (.ref p) H2) → te σ H1 Q
/-- some data of which P holds -/
def EvP (te : TE) (σ : L2.St) (H : Hp) (P : PyData → Prop) : Prop := ∀ H1, Ex H H1 → ∀ Q : VK, (∀ v d H2, Ex H1 H2 → P d → Im H2 v d → Q v H2) → te σ H1 Q
def EvNP (te : TE) (σ : L2.St) (H : Hp) (P : List PyData → Prop) : Prop := ∀ H1, Ex H H1 → ∀ Q : VK, (∀ p xs ds H2, H1 p = none → Ex H1 H2 → P ds → H2 p = some (.lst xs) → Ims H2 xs ds → Q (.ref p) H2) → te σ H1 Q
/-- a test that may go either way, what holds then being P -/
def EvX (tt : TT) (σ : L2.St) (H : Hp) (P : Bool → Prop) : Prop := ∀ H1, Ex H H1 → ∀ Q : Bool → Hp → Prop, (∀ b H2, Ex H1 H2 → P b → Q b H2) → tt σ H1 Q
section
variable {K : PySem.W.Frag} {σ : L2.St} {H H' : Hp} {ta tb te tx tl to : TE} {t u : TT} {x y z v : V} {d d' e' : PyData} {ds es : List PyData}
theorem EvF.is {es : List PyData} (h : EvF te σ H ds) (e : ds = es) : EvF te σ H es := e ▸ h
theorem ef_tup {ta : TA} (h : EvDs ta σ H ds) (hl : ds.length ≤ 100000) : EvF (tTupF ta) σ H ds := fun H1 e _ q =>
  h H1 e _ fun vs H2 e2 i2 => ⟨sz_of (by rw [i2.length]; exact hl), fun p o hp ho => q p o vs _ (e2.trans (Ex.new hp)) upd_same ho (i2.mono (Ex.new hp))⟩
theorem ef_cat1 (ha : EvD ta σ H (.tuple ds)) (hb : EvF tb σ H es) (he : es ≠ []) (hz : ds.length + es.length ≤ 100000) : EvF (tOp (rCatF K) ta tb) σ H (ds ++ es) := fun H1 e Q q =>
  ha H1 e _ fun x H2 e2 ix => hb H2 (e.trans e2) _ fun p' o xs' H3 e3 g1' ho g2' => by
    obtain ⟨p, xs, rfl, g1, g2⟩ := (ix.mono e3).t
    have hne : xs' ≠ [] := fun z => by subst z; cases g2'; exact he rfl
    refine ⟨p, p', xs, xs', rfl, rfl, SqT.of g1, .inl (.inr ⟨o, g1'⟩), sz_of (by rw [g2.length, g2'.length]; exact hz), fun z => ?_, fun _ z => absurd z hne, fun _ _ r o' hr ho' => ?_⟩
    · subst z; cases g2; exact q p' o xs' H3 (e2.trans e3) g1' ho g2'
    · exact q r o' _ _ ((e2.trans e3).trans (Ex.new hr)) upd_same ho' ((g2.append g2').mono (Ex.new hr))
theorem ef_cat2 (ha : EvF ta σ H ds) (hb : EvD tb σ H (.tuple es)) (hd : ds ≠ []) (hz : ds.length + es.length ≤ 100000) : EvF (tOp (rCatF K) ta tb) σ H (ds ++ es) := fun H1 e Q q =>
  ha H1 e _ fun p o xs H2 e2 g1 ho g2 => hb H2 (e.trans e2) _ fun y H3 e3 iy => by
    obtain ⟨p', xs', rfl, g1', g2'⟩ := iy.t
    have g1 := e3 _ _ g1
    have g2 := g2.mono e3
    have hne : xs ≠ [] := fun z => by subst z; cases g2; exact hd rfl
    refine ⟨p, p', xs, xs', rfl, rfl, .inl (.inr ⟨o, g1⟩), SqT.of g1', sz_of (by rw [g2.length, g2'.length]; exact hz), fun z => absurd z hne, fun _ z => ?_, fun _ _ r o' hr ho' => ?_⟩
    · subst z; cases g2'; rw [List.append_nil] at q; exact q p o xs H3 (e2.trans e3) g1 ho g2
    · exact q r o' _ _ ((e2.trans e3).trans (Ex.new hr)) upd_same ho' ((g2.append g2').mono (Ex.new hr))
/-- the pairs of texts and data -/
theorem pairs_at {α : Type} {e2 : α → PyData} {n : α → Str} : ∀ {l : List α} {xs : List V}, Ims H xs (l.map fun a => .tuple [.str (n a), e2 a]) →
    ∃ (ps : List Addr) (kvs : List (Key × V)), xs = ps.map V.ref ∧ Paired (fun p kv => SqT K H p [kV kv.1, kv.2]) ps kvs ∧ kvs.length = l.length ∧ ∀ q ∈ kvs, ∃ a ∈ l, q.1 = .inr (n a) ∧ Im H q.2 (e2 a)
  | [], _, h => by cases h; exact ⟨[], [], rfl, .nil, rfl, fun q hq => by cases hq⟩
  | a :: l, _, h => by
    cases h with
    | cons h1 h2 =>
      obtain ⟨ps, kvs, rfl, hp, hl, hm⟩ := pairs_at h2
      obtain ⟨p, ys, rfl, g1, g2⟩ := h1.t
      obtain ⟨u, v, rfl, iu, iv⟩ := g2.two
      rw [iu.s] at g1
      refine ⟨p :: ps, (.inr (n a), v) :: kvs, rfl, .cons (SqT.of g1) hp, by rw [List.length_cons, List.length_cons, hl], fun q hq => ?_⟩
      rcases List.mem_cons.mp hq with rfl | hq
      · exact ⟨a, List.mem_cons_self .., rfl, iv⟩
      · obtain ⟨b, hb, r⟩ := hm q hq
        exact ⟨b, List.mem_cons_of_mem _ hb, r⟩
theorem mem_putK {kvs : List (Key × V)} {k : Key} {v : V} {q : Key × V} (h : q ∈ putK kvs k v) : q ∈ kvs ∨ q = (k, v) := by
  unfold putK at h
  split at h
  · obtain ⟨r, hr, e⟩ := List.mem_map.mp h
    by_cases c : r.1 = k
    · rw [if_pos c] at e; right; rw [← e, c]
    · rw [if_neg c] at e; left; rw [← e]; exact hr
  · rcases List.mem_append.mp h with h | h
    · exact .inl h
    · exact .inr (by simpa using h)
theorem mem_mergeK : ∀ {more kvs : List (Key × V)} {q : Key × V}, q ∈ mergeK kvs more → q ∈ kvs ∨ q ∈ more
  | [], _, _, h => .inl h
  | p :: more, kvs, q, h => by
    have h' : q ∈ mergeK (putK kvs p.1 p.2) more := h
    rcases mem_mergeK h' with h | h
    · rcases mem_putK h with h | h
      · exact .inl h
      · exact .inr (by rw [h]; exact List.mem_cons_self ..)
    · exact .inr (List.mem_cons_of_mem _ h)
theorem putK_ne {kvs : List (Key × V)} {k : Key} {v : V} : putK kvs k v ≠ [] := by
  unfold putK
  split
  · rename_i c
    intro z
    cases kvs with
    | nil => simp at c
    | cons a l => simp at z
  · simp
theorem mergeK_ne : ∀ {more kvs : List (Key × V)}, kvs ≠ [] → mergeK kvs more ≠ []
  | [], _, h => h
  | p :: more, kvs, h => by
    show mergeK (putK kvs p.1 p.2) more ≠ []
    exact mergeK_ne putK_ne
/-- tuple(dict(t).items()): rows that are rows of t -/
theorem ep_dictItems {α : Type} {e2 : α → PyData} {n : α → Str} {l : List α} (h : EvF te σ H (l.map fun a => .tuple [.str (n a), e2 a])) (hl : l ≠ []) :
    EvP (tTupItems (tCB (rDictF K) (tCons te tNil))) σ H fun d => ∃ l' : List α, l'.length ≤ l.length ∧ (∀ a ∈ l', ∃ b ∈ l, n a = n b ∧ a = b) ∧ d = .tuple (l'.map fun a => .tuple [.str (n a), e2 a]) := fun H1 e Q q => by
  refine h H1 e _ fun p o xs H2 e2' g1 ho g2 => ?_
  obtain ⟨ps, kvs, rfl, hp, hkl, hm⟩ := pairs_at (K := K) g2
  refine ⟨p, o, ps, kvs, rfl, g1, ho, hp, fun r hr => ?_⟩
  have hk : kvs ≠ [] := fun z => by
    subst z
    exact hl (List.length_eq_zero_iff.mp hkl.symm)
  refine ⟨r, mergeK [] kvs, rfl, ?_, upd_same, fun H' p' ts ex hn ht hpr => ?_⟩
  · cases kvs with
    | nil => exact absurd rfl hk
    | cons a kvs =>
      show mergeK (putK [] a.1 a.2) kvs ≠ []
      exact mergeK_ne putK_ne
  · have e3 : Ex H2 H' := fun a u ha => ex a u ((Ex.new hr) a u ha)
    have key : ∀ (ms : List (Key × V)) (ts : List Addr), (∀ q ∈ ms, q ∈ kvs) → Paired (fun (t : Addr) (q : Key × V) => H' t = some (.tup [kV q.1, q.2])) ts ms →
        ∃ l' : List α, l'.length = ms.length ∧ (∀ a ∈ l', a ∈ l) ∧ Ims H' (ts.map V.ref) (l'.map fun a => .tuple [.str (n a), e2 a]) := by
      intro ms
      induction ms with
      | nil => intro ts _ hq; cases hq; exact ⟨[], rfl, fun a ha => (by cases ha), .nil⟩
      | cons q ms ih =>
        intro ts hin hq
        cases hq with
        | cons hq1 hq2 =>
          obtain ⟨l', h1, h2, h3⟩ := ih _ (fun q hq => hin q (List.mem_cons_of_mem _ hq)) hq2
          obtain ⟨a, ha, e1, ia⟩ := hm q (hin q (List.mem_cons_self ..))
          rw [e1] at hq1
          refine ⟨a :: l', by rw [List.length_cons, List.length_cons, h1], fun b hb => ?_, .cons (.tup hq1 (.cons (.str _) (.cons (ia.mono e3) .nil))) h3⟩
          rcases List.mem_cons.mp hb with rfl | hb
          · exact ha
          · exact h2 b hb
    obtain ⟨l', h1, h2, h3⟩ := key _ _ (fun q hq => (mem_mergeK hq).resolve_left (by simp)) hpr
    refine q _ _ H' (e2'.trans e3) ⟨l', ?_, fun a ha => ⟨a, h2 a ha, rfl, rfl⟩, rfl⟩ (.tup ht h3)
    rw [h1, ← hkl]
    have := length_mergeK kvs []
    simpa using this
theorem ed_cnt {ss : List Str} {k : Str} (h : EvD to σ H (.list (ss.map .str))) (h2 : EvD te σ H (.str k)) : EvD (tBM K "list" (rCntS K) to (tCons te tNil)) σ H (.int (ss.countP fun n => decide (n = k) : Nat)) := fun H1 e Q q =>
  h H1 e _ fun v H2 e2 iv => by
    obtain ⟨p, xs, rfl, g1, g2⟩ := iv.l
    have ex := g2.strs
    subst ex
    refine ⟨Or.inl ⟨rfl, _, SqL.of g1⟩, h2 H2 (e.trans e2) _ fun w H3 e3 iw => ⟨p, ss, k, rfl, by rw [iw.s], SqL.of (e3 _ _ g1), q _ H3 (e2.trans e3) (.int _)⟩⟩
theorem enp_sorted {ss : List Str} (h : EvD te σ H (.list (ss.map .str))) (h64 : ss.length < 64) : EvNP (tCB (rSortedS K) (tCons te tNil)) σ H fun ds => ∃ ys : List Str, ds = ys.map .str ∧ ys.Perm ss ∧ sortedS ys = true := fun H1 e Q q =>
  h H1 e _ fun v H2 e2 iv => by
    obtain ⟨p, xs, rfl, g1, g2⟩ := iv.l
    have ex := g2.strs
    subst ex
    exact ⟨p, ss, rfl, SqL.of g1, h64, fun ys r hp hs hr => q r _ _ _ (fresh_back e2 hr) (e2.trans (Ex.new hr)) ⟨ys, rfl, hp, hs⟩ upd_same (Ims.ofStrs ys)⟩
variable {P P' : PyData → Prop}
theorem ep_callQ {R : List PyData → PyData → Prop} {E : XK} {ta : TA} {PA : List PyData → Prop} (h : ∀ H1, Ex H H1 → ∀ Q : List V → Hp → Prop, (∀ vs ds H2, Ex H1 H2 → PA ds → Ims H2 vs ds → Q vs H2) → ta σ H1 Q) (hd : ∀ ds, PA ds → ∃ d, R ds d ∧ P d) : EvP (tCall (SpQ R) [] E ta) σ H P := fun H1 e Q q =>
  h H1 e _ fun vs ds H2 e2 pa i2 => by
    obtain ⟨d, r, p⟩ := hd ds pa
    exact ⟨ds, d, by rw [List.append_nil]; exact i2, r, fun v H3 e3 i3 => q v d H3 (e2.trans e3) p i3⟩
theorem ea_one (h : EvP te σ H P) : ∀ H1, Ex H H1 → ∀ Q : List V → Hp → Prop, (∀ vs ds H2, Ex H1 H2 → (∃ d, ds = [d] ∧ P d) → Ims H2 vs ds → Q vs H2) → tCons te tNil σ H1 Q := fun H1 e Q q =>
  h H1 e _ fun v d H2 e2 p iv => q _ _ H2 e2 ⟨d, rfl, p⟩ (.cons iv .nil)
theorem EvD.p (h : EvD te σ H d) (hp : P d) : EvP te σ H P := fun H1 e Q q => h H1 e Q fun v H2 e2 iv => q v d H2 e2 hp iv
theorem EvP.w (h : EvP te σ H P) (hp : ∀ d, P d → P' d) : EvP te σ H P' := fun H1 e Q q => h H1 e Q fun v d H2 e2 p iv => q v d H2 e2 (hp d p) iv
theorem ex_B {PB : Bool → Prop} (h : EvP te σ H fun d => ∃ b, d = .bool b ∧ PB b) : EvX (tB te) σ H PB := fun H1 e Q q => h H1 e _ fun v d H2 e2 ⟨b, ed, p⟩ iv => by
  subst ed
  exact ⟨b, iv.b, q b H2 e2 p⟩
theorem ex_T {PB : Bool → Prop} (h : EvP te σ H fun d => ∃ b, d = .bool b ∧ PB b) : EvX (tTest te) σ H PB := fun H1 e Q q => h H1 e _ fun v d H2 e2 ⟨b, ed, p⟩ iv => by
  subst ed
  exact ⟨b, iv.b, q b H2 e2 p⟩
theorem EvT.ex {b : Bool} {PB : Bool → Prop} (h : EvT t σ H b) (hp : PB b) : EvX t σ H PB := fun H1 e Q q => h H1 e Q fun H2 e2 => q b H2 e2 hp
theorem ex_or {PA PB PC : Bool → Prop} (h1 : EvX t σ H PA) (h2 : PA false → EvX u σ H PB) (ht : PA true → PC true) (hf : ∀ b, PA false → PB b → PC b) : EvX (tOr t u) σ H PC := fun H1 e Q q => h1 H1 e _ fun b H2 e2 p => by
  cases b with
  | true =>
    show Q true H2
    exact q true H2 e2 (ht p)
  | false =>
    show u σ H2 Q
    exact h2 p H2 (e.trans e2) Q fun b H3 e3 p3 => q b H3 (e2.trans e3) (hf b p p3)
theorem ex_and {PA PB PC : Bool → Prop} (h1 : EvX t σ H PA) (h2 : PA true → EvX u σ H PB) (hf : PA false → PC false) (ht : ∀ b, PA true → PB b → PC b) : EvX (tAnd t u) σ H PC := fun H1 e Q q => h1 H1 e _ fun b H2 e2 p => by
  cases b with
  | false =>
    show Q false H2
    exact q false H2 e2 (hf p)
  | true =>
    show u σ H2 Q
    exact h2 p H2 (e.trans e2) Q fun b H3 e3 p3 => q b H3 (e2.trans e3) (ht b p p3)
theorem ex_not {PA : Bool → Prop} (h1 : EvX t σ H PA) : EvX (tNot t) σ H (fun b => PA (!b)) := fun H1 e _ q => h1 H1 e _ fun b H2 e2 p => q (!b) H2 e2 (by show PA (!(!b)); rw [Bool.not_not]; exact p)
theorem mk_fP {ta : TA} {C : Addr} {f : Str} {Q : XK} (h : ∀ H1, Ex H H1 → ∀ Q : List V → Hp → Prop, (∀ vs ds H2, Ex H1 H2 → (∃ d, ds = [d] ∧ P d) → Ims H2 vs ds → Q vs H2) → ta σ H1 Q) (k : ∀ v d dd H2, Ex H H2 → P d → Im H2 v d → H2 dd = some (.xd [(f, v)]) → Q (.ref C) (some dd) H2) : tMkO C (sp_fld C f) [] ta σ H Q := by
  refine h H (Ex.refl H) _ fun vs ds H1 e1 ⟨d, ed, p⟩ iv => ?_
  subst ed
  obtain ⟨v, rfl, i1⟩ := iv.one
  exact mk_f (σ := []) (d := d) (ta := tCons (tC v) tNil) (H := H1) (ea1 (ed_c i1) ea0) (fun v' dd H2 e2 iv' hdd => k v' d dd H2 (e1.trans e2) p iv' hdd)
variable {D : Ends} {tu tz : TS}
theorem q_whenX {PB : Bool → Prop} (h : EvX t σ H PB) (h1 : PB true → ∀ H1, Ex H H1 → tu { D with nx := tz D } σ H1) (h2 : PB false → ∀ H1, Ex H H1 → tz D σ H1) : tSeq (tIfS t tu tNext) tz D σ H := h H (Ex.refl H) _ fun b H1 e p => by
  cases b with
  | true =>
    show tu _ σ H1
    exact h1 p H1 e
  | false =>
    show tz D σ H1
    exact h2 p H1 e
theorem s_whenX {PB : Bool → Prop} (h : EvX t σ H PB) (h1 : PB true → ∀ H1, Ex H H1 → tu D σ H1) (h2 : PB false → ∀ H1, Ex H H1 → D.nx σ H1) : tIfS t tu tNext D σ H := h H (Ex.refl H) _ fun b H1 e p => by
  cases b with
  | true =>
    show tu _ σ H1
    exact h1 p H1 e
  | false =>
    show D.nx σ H1
    exact h2 p H1 e
theorem q_asgP {i : Nat} (h : EvP te σ H P) (k : ∀ v d H1, Ex H H1 → P d → Im H1 v d → tz D (σ.set i (some v)) H1) : tSeq (tAsg te (gName i)) tz D σ H := h H (Ex.refl H) _ fun v d H1 e p iv => k v d H1 e p iv
theorem q_asgNP {i : Nat} {PL : List PyData → Prop} (h : EvNP te σ H PL) (k : ∀ p xs ds H1, H p = none → Ex H H1 → PL ds → H1 p = some (.lst xs) → Ims H1 xs ds → tz D (σ.set i (some (.ref p))) H1) : tSeq (tAsg te (gName i)) tz D σ H := h H (Ex.refl H) _ fun p xs ds H1 n e pl a b => k p xs ds H1 n e pl a b
theorem EvNP.toP {PL : List PyData → Prop} (h : EvNP te σ H PL) : EvP te σ H fun d => ∃ ds, d = .list ds ∧ PL ds := fun H1 e Q q => h H1 e Q fun p xs ds H2 n e2 pl a b => q _ _ H2 e2 ⟨ds, rfl, pl⟩ (.lst a b)
end
end Pd
set_option Elab.async false
set_option linter.all false
set_option maxRecDepth 100000
set_option maxHeartbeats 2000000
/-! Dt: ints, lists that change, the tape. -/
namespace Pd
open PySem PyProof.Rows L2 Evl
section
variable {K : PySem.W.Frag} {σ : L2.St} {H H' : Hp} {ta tb te tx tl to : TE} {t u : TT} {x y z v : V} {d d' e' : PyData} {ds es : List PyData}
abbrev rInt1 : List V → Hp → VK → Prop := fun xs H Q => (∃ i, xs = [.int i] ∧ Q (.int i) H) ∨ ∃ k, xs = [.bl k] ∧ Q (.int (if k then 1 else 0)) H
theorem ed_int1 {i : Int} (h : EvD te σ H (.int i)) : EvD (tCB rInt1 (tCons te tNil)) σ H (.int i) :=
  ed_cb (ea1 h ea0) fun vs H1 e iv Q q => by
    obtain ⟨v, rfl, i1⟩ := iv.one
    rw [i1.i]
    exact .inl ⟨i, rfl, q _ H1 (Ex.refl H1) (.int _)⟩
abbrev rAbs : List V → Hp → VK → Prop := fun xs H Q => ∃ i, xs = [.int i] ∧ Q (.int (if i < 0 then -i else i)) H
theorem ed_abs {i : Int} (h : EvD te σ H (.int i)) : EvD (tCB rAbs (tCons te tNil)) σ H (.int (if i < 0 then -i else i)) :=
  ed_cb (ea1 h ea0) fun vs H1 e iv Q q => by
    obtain ⟨v, rfl, i1⟩ := iv.one
    rw [i1.i]
    exact ⟨i, rfl, q _ H1 (Ex.refl H1) (.int _)⟩
theorem Ims.ofInts : ∀ ss : List Int, Ims H (ss.map V.int) (ss.map PyData.int)
  | [] => .nil
  | s :: ss => .cons (.int s) (Ims.ofInts ss)
theorem Ims.ints : ∀ {ss : List Int} {vs : List V}, Ims H vs (ss.map PyData.int) → vs = ss.map V.int
  | [], _, h => by cases h; rfl
  | s :: ss, _, h => by cases h with | cons h1 h2 => rw [h1.i, Ims.ints h2]; rfl
/-- over a list that is read: of the script, too -/
theorem wk_sq {a : Addr} {xs : List V} (h : Ev tl σ H (.ref a)) (hx : SqL K H a xs) (g2 : Ims H xs ds) : Wk (iList K tl) σ H ds := fun H1 e R r =>
  h H1 e _ fun H2 e2 => by
    have hx := ex_l (e.trans e2) hx
    have g2 := g2.mono (e.trans e2)
    refine ⟨a, rfl, ⟨xs, hx⟩, r _ H2 (fun H => SqL K H a xs) (YAt xs) e2 (by rw [← g2.length]; exact walk_list) (fun H3 e3 => ex_l e3 hx) fun i H3 x H4 e3 yy => ?_⟩
    obtain ⟨rfl, hx⟩ := yy
    obtain ⟨d, hd, im⟩ := (g2.mono e3).get hx
    exact ⟨Ex.refl _, d, hd, im⟩
theorem Wk.m {wi : TI} {src : List PyData} (h : Wk wi σ H src) : WkM [] wi σ H src := fun H1 e R r => h H1 e R fun J H2 G Y e2 W hG hY => r J H2 G Y e2 W (fun H3 e3 => hG H3 e3.ex) fun i H3 x H4 e3 yy => hY i H3 x H4 e3.ex yy
theorem WkM.wk {wi : TI} {src : List PyData} (h : WkM [] wi σ H src) : Wk wi σ H src := fun H1 e R r => h H1 e R fun J H2 G Y e2 W hG hY => r J H2 G Y e2 W (fun H3 e3 => hG H3 (ExM.of e3)) fun i H3 x H4 e3 yy => hY i H3 x H4 (ExM.of e3) yy
/-! ### frames -/
theorem ExM.mut {M : List Addr} {p : Addr} {o : HO} (e : ExM M H H') (h : H p = none) : ExM M H (L2.upd H' p o) :=
  ⟨fun a u n ha => by rw [upd_ne (fun z => by rw [z, h] at ha; cases ha)]; exact e.1 a u n ha, fun a xs ha => by rw [upd_ne (fun z => by rw [z, h] at ha; cases ha)]; exact e.2 a xs ha⟩
theorem ExM.fresh {M : List Addr} {p : Addr} (e : ExM M H H') (hM : p ∉ M) (h : H' p = none) : H p = none := by
  cases c : H p with
  | none => rfl
  | some o => rw [e.1 p o hM c] at h; cases h
/-- the tape: a list at t of the list of numbers at c, and the seed -/
structure Tape (t c : Addr) (H : Hp) : Prop where
  ne : t ≠ c
  at_t : ∃ s : Int, H t = some (.lst [.ref c, .int s]) ∧ 0 ≤ s ∧ s ≤ 2147483647
  at_c : ∃ ns : List Int, H c = some (.lst (ns.map V.int)) ∧ ns.length ≤ 63 ∧ ∀ n ∈ ns, 0 ≤ n
theorem Tape.ex {t c : Addr} (T : Tape t c H) (e : Ex H H') : Tape t c H' := by
  obtain ⟨ne, ⟨s, h1, h2⟩, ⟨ns, h3, h4⟩⟩ := T
  exact ⟨ne, ⟨s, e _ _ h1, h2⟩, ⟨ns, e _ _ h3, h4⟩⟩
theorem Tape.upd {t c p : Addr} {o : HO} (T : Tape t c H) (h1 : p ≠ t) (h2 : p ≠ c) : Tape t c (L2.upd H p o) := by
  obtain ⟨ne, ⟨s, g1, g2⟩, ⟨ns, g3, g4⟩⟩ := T
  exact ⟨ne, ⟨s, by rw [upd_ne (fun z => h1 z.symm)]; exact g1, g2⟩, ⟨ns, by rw [upd_ne (fun z => h2 z.symm)]; exact g3, g4⟩⟩
theorem Tape.some_t {t c : Addr} (T : Tape t c H) : H t ≠ none := by
  obtain ⟨_, ⟨s, h1, _⟩, _⟩ := T
  rw [h1]; simp
theorem Tape.some_c {t c : Addr} (T : Tape t c H) : H c ≠ none := by
  obtain ⟨_, _, ⟨s, h1, _⟩⟩ := T
  rw [h1]; simp
theorem Tape.notin {t c p : Addr} (T : Tape t c H) (h : H p = none) : p ∉ [t, c] := fun z => by
  rcases List.mem_cons.mp z with rfl | z
  · exact T.some_t h
  · rcases List.mem_cons.mp z with rfl | z
    · exact T.some_c h
    · cases z
/-- later: what is not the tape stays, the tape stays one -/
def Go (t c : Addr) (H H' : Hp) : Prop := ExM [t, c] H H' ∧ Tape t c H'
theorem Go.trans {t c : Addr} {H1 : Hp} (a : Go t c H H1) (b : Go t c H1 H') : Go t c H H' := ⟨a.1.trans b.1, b.2⟩
theorem Go.of {t c : Addr} (T : Tape t c H) (e : Ex H H') : Go t c H H' := ⟨ExM.of e, T.ex e⟩
theorem Go.ex {t c : Addr} {H1 : Hp} (a : Go t c H H1) (e : Ex H1 H') : Go t c H H' := ⟨a.1.trans (ExM.of e), a.2.ex e⟩
theorem Go.refl {t c : Addr} (T : Tape t c H) : Go t c H H := ⟨ExM.refl _ _, T⟩
theorem Go.at {t c p : Addr} {o : HO} (g : Go t c H H') (hp : p ∉ [t, c]) (h : H p = some o) : H' p = some o := g.1.1 p o hp h
theorem Go.im {t c : Addr} (g : Go t c H H') (s : still d = true) (h : Im H v d) : Im H' v d := h.tx g.1.2 s
/-- one whole number below m is drawn -/
def sp_draw : Sp := fun vs H Q _ => ∃ (t c : Addr) (m : Nat), vs = [.ref t, .int (m : Nat)] ∧ Tape t c H ∧ 1 ≤ m ∧ m ≤ 1000 ∧ ∀ r : Nat, r < m → ∀ H', Go t c H H' → Q (.int (r : Nat)) H'
def sp_tape (K : PySem.W.Frag) : Sp := fun vs H Q _ => ∃ (a : Addr) (ns : List Int), vs = [.ref a] ∧ SqL K H a (ns.map V.int) ∧ ns.length ≤ 63 ∧ ∀ t c H', Ex H H' → Tape t c H' → Q (.ref t) H'
def sp_pick : Sp := fun vs H Q _ => ∃ (t c p : Addr) (xs : List V), vs = [.ref t, .ref p] ∧ Tape t c H ∧ p ∉ [t, c] ∧ H p = some (.lst xs) ∧ xs ≠ [] ∧ xs.length ≤ 1000 ∧ ∀ (i : Nat) (x : V), xs[i]? = some x → ∀ H', Go t c H H' → Q x H'
theorem drawn {it : Nat} {t c : Addr} {m : Nat} {Q : VK} {E : XK} (ht : σ[it]? = some (some (.ref t))) (T : Tape t c H) (hm : EvD tb σ H (.int (m : Nat))) (h1 : 1 ≤ m) (h2 : m ≤ 1000) (k : ∀ r : Nat, r < m → ∀ H', Go t c H H' → Q (.int (r : Nat)) H') :
    tCall sp_draw [] E (tCons (tVar it) (tCons tb tNil)) σ H Q := (ea_cons (ev_var ht) (ea_cons hm.evI ea_nil)) H (Ex.refl H) _ fun H2 e2 =>
  ⟨t, c, m, rfl, T.ex e2, h1, h2, fun r hr H' g => k r hr H' ((Go.of T e2).trans g)⟩
theorem picked {it : Nat} {t c p : Addr} {xs : List V} {Q : VK} {E : XK} (ht : σ[it]? = some (some (.ref t))) (T : Tape t c H) (hp : Ev tb σ H (.ref p)) (hn : p ∉ [t, c]) (hx : H p = some (.lst xs)) (h1 : xs ≠ []) (h2 : xs.length ≤ 1000) (k : ∀ (i : Nat) (x : V), xs[i]? = some x → ∀ H', Go t c H H' → Q x H') :
    tCall sp_pick [] E (tCons (tVar it) (tCons tb tNil)) σ H Q := (ea_cons (ev_var ht) (ea_cons hp ea_nil)) H (Ex.refl H) _ fun H2 e2 =>
  ⟨t, c, p, xs, rfl, T.ex e2, hn, e2 _ _ hx, h1, h2, fun i x hx H' g => k i x hx H' ((Go.of T e2).trans g)⟩
variable {D : Ends}
theorem s_pop0 {l : Addr} {xs : List V} (hl : H l = some (.lst (x :: xs))) (ha : Ev ta σ H (.ref l)) (h : Ev te σ H (.int 0)) (k : ∀ H1, Ex H H1 → D.nx σ (L2.upd H1 l (.lst xs))) : tDrop (tBM K "list" rPopAt ta (tCons te tNil)) D σ H :=
  ha H (Ex.refl H) _ fun H1 e1 => ⟨Or.inl ⟨rfl, _, sq_of (e1 l _ hl)⟩, h H1 e1 _ fun H2 e2 => ⟨l, x :: xs, 0, 0, x, rfl, rfl, (e1.trans e2) l _ hl, by decide, by decide, by simp [seqIndex?], rfl, k H2 (e1.trans e2)⟩⟩
/-- one operand, then the other -/
theorem op_run {r : R2} {Q : VK} (ha : Ev ta σ H x) (k : ∀ H1, Ex H H1 → tb σ H1 fun y H2 => r x y H2 Q) : tOp r ta tb σ H Q := ha H (Ex.refl H) _ k
theorem s_retOp {r : R2} (ha : Ev ta σ H x) (k : ∀ H1, Ex H H1 → tb σ H1 fun y H2 => r x y H2 D.rt) : tRet (tOp r ta tb) D σ H := ha H (Ex.refl H) _ k
end
end Pd
set_option Elab.async false
set_option linter.all false
set_option maxRecDepth 100000
set_option maxHeartbeats 2000000
/-! Dt2: draws within expressions. -/
namespace Pd
open PySem PyProof.Rows L2 Evl
theorem Go.mut {t c p : Addr} {o : HO} {H H' : Hp} (g : Go t c H H') (T : Tape t c H) (hp : H p = none) : Go t c H (L2.upd H' p o) := by
  have n := T.notin hp
  refine ⟨g.1.mut hp, g.2.upd (fun z => n (by rw [z]; simp)) (fun z => n (by rw [z]; simp))⟩
section
variable {K : PySem.W.Frag} {σ : L2.St} {H H' : Hp} {ta tb te tx tl to : TE} {t u : TT} {x y z v : V} {d d' e' : PyData} {ds es : List PyData} {D : Ends} {tu tz : TS}
theorem sl_runN {th : TO} {Q : VK} (h : EvN te σ H ds) (k : ∀ p xs H1, H p = none → Ex H H1 → H1 p = some (.lst xs) → Ims H1 xs ds → th σ H1 fun hi H2 => rSlL K (.ref p) none hi H2 Q) : tSl (rSlL K) te tNoPart th σ H Q := h H (Ex.refl H) _ fun p xs H1 n e a b => k p xs H1 n e a b
/-- 1 + a drawn number -/
theorem one_more {t c : Addr} {m : Nat} {Q : VK} {E : XK} (ht : σ[0]? = some (some (.ref t))) (T : Tape t c H) (h1 : 1 ≤ m) (h2 : m ≤ 1000) (k : ∀ r : Nat, r < m → ∀ H', Go t c H H' → Q (.int ((1 + r : Nat) : Int)) H') :
    tOp (rI0 fun i j => .int (i + j)) (tC (.int 1)) (tCall sp_draw [] E (tCons (tVar 0) (tCons (tC (.int (m : Nat))) tNil))) σ H Q :=
  op_run ev_c fun H1 e1 => drawn ht (T.ex e1) (ed_i _) h1 h2 fun r hr H' g => ⟨1, r, rfl, rfl, by
    have := k r hr H' ((Go.of T e1).trans g)
    have e : ((1 + r : Nat) : Int) = 1 + (r : Int) := by omega
    rw [e] at this
    exact this⟩
/-- a drawn number == 0 -/
theorem draw_zero {t c : Addr} {m : Nat} {Q : Bool → Hp → Prop} {E : XK} (ht : σ[0]? = some (some (.ref t))) (T : Tape t c H) (h1 : 1 ≤ m) (h2 : m ≤ 1000) (k : ∀ (b : Bool) H', Go t c H H' → Q b H') :
    tTest (tOp rEq (tCall sp_draw [] E (tCons (tVar 0) (tCons (tC (.int (m : Nat))) tNil))) (tC (.int 0))) σ H Q :=
  drawn ht T (ed_i _) h1 h2 fun r hr H' g => ⟨rfl, decide (V.int (r : Nat) = V.int 0), rfl, k _ H' g⟩
/-- [x for x in l if a drawn number is 0] -/
theorem lc_draws {t c : Addr} {m j : Nat} {vs : List Nat} {l : List Str} {Q : VK} {E : XK} (hl : EvN tl σ H (l.map .str)) (hz : l.length ≤ 1000) (T : Tape t c H) (h1 : 1 ≤ m) (h2 : m ≤ 1000)
    (ht : ∀ x, ((wipe σ vs).set j (some x))[0]? = some (some (.ref t))) (hj : ∀ x, ((wipe σ vs).set j (some x))[j]? = some (some x)) (hw : ∀ x, wipe ((wipe σ vs).set j (some x)) vs = wipe σ vs)
    (k : ∀ p (ws : List Str) H', Go t c H H' → H p = none → ws.Sublist l → H' p = some (.lst (ws.map V.str)) → Q (.ref p) H') :
    tLc (iList K tl) (gName j) (tTest (tOp rEq (tCall sp_draw [] E (tCons (tVar 0) (tCons (tC (.int (m : Nat))) tNil))) (tC (.int 0)))) (tVar j) vs σ H Q := by
  refine hl H (Ex.refl H) _ fun p0 xs H2 n0 e2 g1 g2 => ?_
  have exs := g2.strs
  subst exs
  have T2 := T.ex e2
  have np0 : p0 ∉ [t, c] := T.notin n0
  refine ⟨p0, rfl, ⟨l.map V.str, SqL.of g1⟩, fun Dl hD => ?_⟩
  have W := walk_list (K := K) (a := p0) (xs := l.map V.str)
  refine lc_it W (fun i H' => Go t c H2 H' ∧ ∃ acc : List Str, acc.Sublist (l.take i) ∧ acc.length ≤ i ∧ H' Dl = some (.lst (acc.map V.str)))
    ⟨(Go.refl T2).mut T2 hD, [], List.nil_sublist _, Nat.le_refl _, upd_same⟩ (fun i H' _ p => SqL.of (p.1.at np0 g1)) (fun i x H3 H4 hi p y => ?_) fun H' p => ?_
  · obtain ⟨rfl, hx⟩ := y
    obtain ⟨g, acc, q1, q2, q3⟩ := p
    rw [List.getElem?_map] at hx
    obtain ⟨s, hs, rfl⟩ : ∃ s, l[i]? = some s ∧ V.str s = x := by
      cases e : l[i]? with
      | none => rw [e] at hx; cases hx
      | some r => rw [e] at hx; exact ⟨r, rfl, Option.some.inj hx⟩
    refine ⟨hw _, draw_zero (ht _) g.2 h1 h2 fun b H5 g5 => ?_⟩
    have D5 : H5 Dl = some (.lst (acc.map V.str)) := g5.at (T2.notin hD) q3
    have g25 := g.trans g5
    cases b with
    | true =>
      refine ⟨.str s, hj _, acc.map V.str, D5, ?_, g25.mut T2 hD, acc ++ [s], ?_, by rw [List.length_append]; show _ + 1 ≤ _; omega, by rw [List.map_append]; exact upd_same⟩
      · have : i < (l.map V.str).length := hi
        rw [List.length_map] at this
        exact sz_lt (by rw [List.length_map]; omega)
      · rw [take_more hs]
        exact List.Sublist.append q1 (List.Sublist.refl _)
    | false =>
      show Go t c H2 H5 ∧ _
      refine ⟨g25, acc, ?_, by omega, D5⟩
      rw [take_more hs]
      exact q1.trans (List.sublist_append_left _ _)
  · obtain ⟨g, acc, q1, q2, q3⟩ := p
    rw [List.length_map, List.take_length] at q1
    exact k Dl acc H' ((Go.of T e2).trans g) (fresh_back e2 hD) q1 q3
/-- what is walked, with all that the walk's making does -/
def Run (wi : TI) (σ : L2.St) (H : Hp) (M : List Addr) (C : List PyData → Hp → Prop) : Prop := ∀ R : It → Hp → Prop,
  (∀ J H2 G Y src, C src H2 → Walk J src.length G Y → (∀ H3, ExM M H2 H3 → G H3) → (∀ i H3 x H4, ExM M H2 H3 → Y i H3 x H4 → Ex H3 H4 ∧ ∃ d, src[i]? = some d ∧ Im H4 x d) → R J H2) → wi σ H R
theorem run_range {M : List Addr} {ta : TA} {C : List PyData → Hp → Prop} (h : ∀ Q : List V → Hp → Prop, (∀ (n : Nat) H1, n ≤ 100000 → C ((List.range n).map fun i => .int (i : Nat)) H1 → Q [.int (n : Nat)] H1) → ta σ H Q) : Run (iRng1 ta) σ H M C := fun R r => by
  refine h _ fun n H2 hn hc => ⟨(n : Int), rfl, by omega, by omega, r _ H2 (fun _ => True) (fun i H x H' => i < n ∧ H' = H ∧ x = .int (0 + (i : Int))) _ hc (by
      have : ((List.range n).map fun i => PyData.int (i : Nat)).length = (n : Int).toNat := by simp
      rw [this]
      exact ⟨fun _ _ hi _ => hi, fun _ _ => Nat.le_refl _, fun i _ _ _ hi _ y => ⟨by simpa using hi, y.1, y.2⟩⟩) (fun _ _ => trivial) fun i H3 x H4 e3 yy => ?_⟩
  obtain ⟨hi', rfl, rfl⟩ := yy
  have e0 : (0 : Int) + (i : Int) = (i : Int) := Int.zero_add _
  refine ⟨Ex.refl _, .int (i : Nat), ?_, by show Im H4 (.int ((0 : Int) + (i : Int))) _; rw [e0]; exact .int _⟩
  have hi := hi'
  simp [hi]
theorem run_of {wi : TI} {M : List Addr} {src : List PyData} (h : WkM M wi σ H src) : Run wi σ H M (fun s H1 => s = src ∧ Ex H H1) := fun R r => h H (Ex.refl H) R fun J H2 G Y e2 W hG hY => r J H2 G Y src ⟨rfl, e2⟩ W hG hY
/-- THE FOR over what is made, Pv by the turn -/
theorem s_forR {wi : TI} {g : TG} (M : List Addr) {C : List PyData → Hp → Prop} (hk : Run wi σ H M C)
    (h : ∀ src H2, C src H2 → ∃ Pv : Nat → L2.St → Hp → Prop, Pv 0 σ H2 ∧ (∀ i σ' H3 H4, Pv i σ' H3 → Ex H3 H4 → Pv i σ' H4) ∧
      (∀ i d x σ' H3 H4, src[i]? = some d → Ex H3 H4 → Im H4 x d → Pv i σ' H4 → g x σ' H4 fun σ2 H5 => tu { D with nx := fun σ3 H6 => Pv (i + 1) σ3 H6 ∧ ExM M H3 H6, ct := fun σ3 H6 => Pv (i + 1) σ3 H6 ∧ ExM M H3 H6, bk := D.nx } σ2 H5) ∧
      (∀ σ' H', Pv src.length σ' H' → D.nx σ' H')) : tFor wi g tu D σ H := by
  refine hk _ fun J H2 G Y src hc W hG hY => ?_
  obtain ⟨Pv, h0, hm, hs, hd⟩ := h src H2 hc
  refine ⟨fun i m σ' H' => m = src.length - i ∧ i ≤ src.length ∧ Pv i σ' H' ∧ ExM M H2 H', ⟨src.length, by simp, Nat.zero_le _, h0, ExM.refl M H2⟩, ?_⟩
  rintro i m σ' H3 ⟨rfl, hi, p, e3⟩
  by_cases hlt : i < src.length
  · refine .inr ⟨W.goes i H3 hlt (hG H3 e3), fun σ3 H6 => Pv (i + 1) σ3 H6 ∧ ExM M H3 H6, fun σ3 H6 q => ⟨src.length - (i + 1), by omega, rfl, hlt, q.1, e3.trans q.2⟩, fun x H4 y => ?_⟩
    obtain ⟨e34, d, hd', im⟩ := hY i H3 x H4 e3 (W.yields i H3 x H4 hlt (hG H3 e3) y)
    exact hs i d x σ' H3 H4 hd' e34 im (hm i σ' H3 H4 p e34)
  · have e : i = src.length := by omega
    subst e
    exact .inl ⟨W.stops H3 (hG H3 e3), hd σ' H3 p⟩
theorem q_forR {wi : TI} {g : TG} (M : List Addr) {C : List PyData → Hp → Prop} (hk : Run wi σ H M C)
    (h : ∀ src H2, C src H2 → ∃ Pv : Nat → L2.St → Hp → Prop, Pv 0 σ H2 ∧ (∀ i σ' H3 H4, Pv i σ' H3 → Ex H3 H4 → Pv i σ' H4) ∧
      (∀ i d x σ' H3 H4, src[i]? = some d → Ex H3 H4 → Im H4 x d → Pv i σ' H4 → g x σ' H4 fun σ2 H5 => tu { D with nx := fun σ3 H6 => Pv (i + 1) σ3 H6 ∧ ExM M H3 H6, ct := fun σ3 H6 => Pv (i + 1) σ3 H6 ∧ ExM M H3 H6, bk := tz D } σ2 H5) ∧
      (∀ σ' H', Pv src.length σ' H' → tz D σ' H')) : tSeq (tFor wi g tu) tz D σ H := s_forR (D := { D with nx := tz D }) M hk h
variable {P : PyData → Prop}
/-- xs.append(e), e known by what holds of it -/
theorem s_appP {l : Addr} {xs : List V} (hl : H l = some (.lst xs)) (ha : Ev ta σ H (.ref l)) (h : EvP te σ H P) (hs : ∀ d, P d → still d = true) (hz : xs.length < 100000) (k : ∀ v d H1, Ex H H1 → H1 l = some (.lst xs) → P d → Im (L2.upd H1 l (.lst (xs ++ [v]))) v d → D.nx σ (L2.upd H1 l (.lst (xs ++ [v])))) :
    tDrop (tBM K "list" rAppend ta (tCons te tNil)) D σ H := ha H (Ex.refl H) _ fun H1 e1 =>
  ⟨Or.inl ⟨rfl, xs, sq_of (e1 l _ hl)⟩, h H1 e1 _ fun v d H2 e2 p iv => ⟨l, xs, v, rfl, rfl, e2 l _ (e1 l _ hl), sz_lt hz, k v d H2 (e1.trans e2) (e2 l _ (e1 l _ hl)) p (iv.tx (tx_lst (e2 l _ (e1 l _ hl))) (hs d p))⟩⟩
/-- xs.append(a picked one) -/
theorem s_appPick {t c l p : Addr} {xs ys : List V} {E : XK} (hl : H l = some (.lst xs)) (ha : Ev ta σ H (.ref l)) (ht : σ[0]? = some (some (.ref t))) (T : Tape t c H) (hln : l ∉ [t, c]) (hp : Ev tb σ H (.ref p)) (hn : p ∉ [t, c]) (hx : H p = some (.lst ys)) (h1 : ys ≠ []) (h2 : ys.length ≤ 1000) (hz : xs.length < 100000)
    (k : ∀ (i : Nat) (x : V), ys[i]? = some x → ∀ H', Go t c H H' → H' l = some (.lst xs) → D.nx σ (L2.upd H' l (.lst (xs ++ [x])))) :
    tDrop (tBM K "list" rAppend ta (tCons (tCall sp_pick [] E (tCons (tVar 0) (tCons tb tNil))) tNil)) D σ H := ha H (Ex.refl H) _ fun H1 e1 =>
  ⟨Or.inl ⟨rfl, xs, sq_of (e1 l _ hl)⟩, picked ht (T.ex e1) (hp.mono e1) hn (e1 _ _ hx) h1 h2 fun i x hx H' g => ⟨l, xs, x, rfl, rfl, g.at hln (e1 _ _ hl), sz_lt hz, k i x hx H' ((Go.of T e1).trans g) (g.at hln (e1 _ _ hl))⟩⟩
theorem q_asgRun {i : Nat} (h : te σ H fun v H1 => tz D (σ.set i (some v)) H1) : tSeq (tAsg te (gName i)) tz D σ H := h
theorem part_run {Q : Option Int → Hp → Prop} (h : te σ H fun x H1 => ∃ i, x = .int i ∧ Q (some i) H1) : tPart te σ H Q := h
theorem q_or2 {tA tB : TT} {b1 : Bool} (h : EvT tA σ H b1) (h1 : b1 = true → ∀ H1, Ex H H1 → tu { D with nx := tz D } σ H1) (h2 : b1 = false → ∀ H1, Ex H H1 → tB σ H1 fun b H2 => if b = true then tu { D with nx := tz D } σ H2 else tz D σ H2) : tSeq (tIfS (tOr tA tB) tu tNext) tz D σ H := h H (Ex.refl H) _ fun H1 e => by
  cases b1 with
  | true => exact h1 rfl H1 e
  | false => exact h2 rfl H1 e
theorem cutV_to (k : Nat) (ds : List V) : cutV ds none (some (k : Int)) = ds.take k := by
  unfold cutV
  rw [HT.sIx_nat, HT.sIx_none, List.drop_zero, Nat.sub_zero]
  rcases Nat.le_total k ds.length with h | h
  · rw [Nat.min_eq_left h]
  · rw [Nat.min_eq_right h, List.take_of_length_le (Nat.le_refl _), List.take_of_length_le h]
theorem ep_tupOf {PL : List PyData → Prop} (h : EvNP te σ H PL) : EvP (tCB (rTupOf K) (tCons te tNil)) σ H (fun d => ∃ ds, d = .tuple ds ∧ PL ds) := fun H1 e Q q =>
  h H1 e _ fun p xs ds H2 n e2 pl a b => ⟨p, xs, rfl, .inl ⟨SqL.of a, fun l hl => q _ _ _ (e2.trans (Ex.new hl)) ⟨ds, rfl, pl⟩ (.tup upd_same (b.mono (Ex.new hl)))⟩⟩
end
end Pd
set_option Elab.async false
set_option linter.all false
set_option maxRecDepth 100000
set_option maxHeartbeats 2000000
/-! Dt3: what is left beside the tape. -/
namespace Pd
open PySem PyProof.Rows L2 Evl
section
variable {K : PySem.W.Frag} {σ : L2.St} {H H' : Hp} {ta tb te tx tl to : TE} {t u : TT} {x y z v : V} {d d' e' : PyData} {ds es : List PyData} {D : Ends} {tu tz : TS} {tp c : Addr}
theorem call_run {sp : Sp} {E : XK} {ta : TA} {vs : List V} {Q : VK} (h : EvA ta σ H vs) (k : ∀ H1, Ex H H1 → sp (vs ++ []) H1 Q E) : tCall sp [] E ta σ H Q := h H (Ex.refl H) _ k
/-- texts in a list, the tape drawn from meanwhile -/
def EvGL (tp c : Addr) (te : TE) (σ : L2.St) (H : Hp) (P : List Str → Prop) : Prop := ∀ Q : VK, (∀ p ls H2, Go tp c H H2 → H p = none → H2 p = some (.lst (ls.map V.str)) → P ls → Q (.ref p) H2) → te σ H Q
theorem eg_of {ls : List Str} {P : List Str → Prop} (T : Tape tp c H) (h : EvN te σ H (ls.map .str)) (hp : P ls) : EvGL tp c te σ H P := fun Q q => h H (Ex.refl H) Q fun p xs H2 n e a b => by
  have ex := b.strs
  subst ex
  exact q p ls H2 (Go.of T e) n a hp
theorem eg_cat {P P' : List Str → Prop} (ha : EvGL tp c ta σ H P) (T : Tape tp c H) (hb : ∀ H1, Go tp c H H1 → EvGL tp c tb σ H1 P') (hz : ∀ l m, P l → P' m → l.length + m.length ≤ 100000) : EvGL tp c (tOp rCat ta tb) σ H (fun x => ∃ l m, P l ∧ P' m ∧ x = l ++ m) := fun Q q =>
  ha _ fun p ls H1 g n a p1 => hb H1 g _ fun p' ms H2 g' n' a' p2 => by
    have e2 := g'.at (T.notin n) a
    refine ⟨p, p', _, _, rfl, rfl, e2, a', sz_of (by rw [List.length_map, List.length_map]; exact hz _ _ p1 p2), fun r hr => ?_⟩
    refine q r (ls ++ ms) _ ((g.trans g').ex (Ex.new hr)) ?_ (by rw [List.map_append]; exact upd_same) ⟨ls, ms, p1, p2, rfl⟩
    cases c0 : H r with
    | none => rfl
    | some o =>
      by_cases hm : r ∈ [tp, c]
      · exfalso
        have T2 := (g.trans g').2
        rcases List.mem_cons.mp hm with rfl | hm
        · exact T2.some_t hr
        · rcases List.mem_cons.mp hm with rfl | hm
          · exact T2.some_c hr
          · cases hm
      · rw [(g.trans g').at hm c0] at hr
        cases hr
theorem q_asgGL {i : Nat} {P : List Str → Prop} (h : EvGL tp c te σ H P) (k : ∀ p ls H2, Go tp c H H2 → H p = none → H2 p = some (.lst (ls.map V.str)) → P ls → tz D (σ.set i (some (.ref p))) H2) : tSeq (tAsg te (gName i)) tz D σ H := h _ k
/-- arguments of which none is the tape -/
def Off (tp c : Addr) (v : V) : Prop := v ≠ .ref tp ∧ v ≠ .ref c
def EvO1 (tp c : Addr) (te : TE) (σ : L2.St) (H : Hp) (d : PyData) : Prop := ∀ H1, Ex H H1 → ∀ Q : VK, (∀ v H2, Ex H1 H2 → Im H2 v d → Off tp c v → Q v H2) → te σ H1 Q
def EvOs (tp c : Addr) (ta : TA) (σ : L2.St) (H : Hp) (ds : List PyData) : Prop := ∀ H1, Ex H H1 → ∀ Q : List V → Hp → Prop, (∀ vs H2, Ex H1 H2 → Ims H2 vs ds → (∀ v ∈ vs, Off tp c v) → Q vs H2) → ta σ H1 Q
theorem Tape.off {p : Addr} (T : Tape tp c H) (h : H p = none) : Off tp c (.ref p) := by
  have n := T.notin h
  exact ⟨fun z => n (by cases z; simp), fun z => n (by cases z; simp)⟩
theorem eo_new (T : Tape tp c H) (h : EvN te σ H ds) : EvO1 tp c te σ H (.list ds) := fun H1 e Q q => h H1 e Q fun p xs H2 n e2 a b => q _ H2 e2 (.lst a b) ((T.ex e).off n)
theorem eo_tup (T : Tape tp c H) (h : EvD te σ H (.tuple ds)) : EvO1 tp c te σ H (.tuple ds) := fun H1 e Q q => h H1 e Q fun v H2 e2 iv => q v H2 e2 iv (by
  obtain ⟨p, xs, rfl, g1, g2⟩ := iv.t
  have T2 := T.ex (e.trans e2)
  obtain ⟨_, ⟨s, h1, _⟩, ⟨ns, h2, _⟩⟩ := T2
  exact ⟨fun z => (by cases z; rw [g1] at h1; cases h1), fun z => (by cases z; rw [g1] at h2; cases h2)⟩)
theorem eo_non : EvO1 tp c (tC .non) σ H .none := fun H1 e Q q => q _ H1 (Ex.refl H1) .non ⟨fun z => (by cases z), fun z => (by cases z)⟩
theorem EvOs.is {ta : TA} {es : List PyData} (h : EvOs tp c ta σ H ds) (e : ds = es) : EvOs tp c ta σ H es := e ▸ h
theorem eos0 : EvOs tp c tNil σ H [] := fun H1 _ _ q => q _ H1 (Ex.refl H1) .nil (fun v hv => by cases hv)
theorem eos1 {tr : TA} (h : EvO1 tp c ta σ H d) (hr : EvOs tp c tr σ H ds) : EvOs tp c (tCons ta tr) σ H (d :: ds) := fun H1 e _ q =>
  h H1 e _ fun v H2 e2 i2 o2 => hr H2 (e.trans e2) _ fun vs H3 e3 i3 o3 => q _ H3 (e2.trans e3) (.cons (i2.mono e3) i3) (fun w hw => by
    rcases List.mem_cons.mp hw with rfl | hw
    · exact o2
    · exact o3 w hw)
theorem callA {sp : Sp} {E : XK} {ta : TA} {Q : VK} (k : ta σ H fun vs H1 => sp (vs ++ []) H1 Q E) : tCall sp [] E ta σ H Q := k
theorem callSA {sp : Sp} {E : L2.St → XK} {ta : TA} {Q : VK} (k : ta σ H fun vs H1 => sp vs H1 Q (E σ)) : tCallS sp E ta σ H Q := k
theorem q_dropA (k : te σ H fun _ H1 => tz D σ H1) : tSeq (tDrop te) tz D σ H := k
theorem consA {tr : TA} {Q : List V → Hp → Prop} (k : te σ H fun v H1 => tr σ H1 fun vs H2 => Q (v :: vs) H2) : tCons te tr σ H Q := k
theorem lstA {ta : TA} {Q : VK} (k : ta σ H fun xs H1 => xs.length ≤ sizeLine ∧ ∀ p, H1 p = none → Q (.ref p) (L2.upd H1 p (.lst xs))) : tLst ta σ H Q := k
theorem var_run {i : Nat} {Q : VK} (h : σ[i]? = some (some v)) (k : Q v H) : tVar i σ H Q := ⟨v, h, k⟩
/-- one of some is picked: what it is, where -/
inductive Pk (H : Hp) : V → PyData → Prop
  | still {v : V} {d : PyData} : Pd.still d = true → Im H v d → Pk H v d
  | lst {p : Addr} {xs : List V} {ds : List PyData} : H p = some (.lst xs) → stills ds = true → Ims H xs ds → Pk H (.ref p) (.list ds)
theorem Pk.im {v : V} {d : PyData} (h : Pk H v d) : Im H v d := by
  cases h with
  | still _ h => exact h
  | lst h1 _ h2 => exact .lst h1 h2
def flat1 (d : PyData) : Bool := match d with
  | .list ds => stills ds
  | d => Pd.still d
theorem picked_of {it : Nat} {ta : TA} {Q : VK} {E : XK} (ht : σ[it]? = some (some (.ref tp))) (T : Tape tp c H) (h : EvOs tp c ta σ H ds) (h1 : ds ≠ []) (h2 : ds.length ≤ 1000) (hf : ∀ d ∈ ds, flat1 d = true) (k : ∀ v d, d ∈ ds → ∀ H', Go tp c H H' → Im H' v d → Q v H') :
    tCall sp_pick [] E (tCons (tVar it) (tCons (tLst ta) tNil)) σ H Q := by
  refine callA (consA (var_run ht (consA (lstA ?_))))
  refine h H (Ex.refl H) _ fun vs H2 e2 iv off => ⟨sz_of (by rw [iv.length]; omega), fun p hp => ?_⟩
  have T2 := T.ex e2
  have TP := T2.ex (Ex.new (o := .lst vs) hp)
  refine ⟨tp, c, p, vs, rfl, TP, T2.notin hp, upd_same, fun z => ?_, by rw [iv.length]; omega, fun i x hx H' g => ?_⟩
  · subst z
    cases iv
    exact h1 rfl
  · have iv' := iv.mono (Ex.new (o := .lst vs) hp)
    obtain ⟨d, hd, im⟩ := iv'.get hx
    have hm := List.mem_of_getElem? hd
    have ho := off x (List.mem_of_getElem? hx)
    have gg := (Go.of T (e2.trans (Ex.new (o := .lst vs) hp))).trans g
    refine k x d hm H' gg ?_
    have f := hf d hm
    cases im with
    | non => exact .non
    | bl b => exact .bl _
    | int i => exact .int _
    | str s => exact .str _
    | lst a b =>
      exact .lst (g.at (fun z => by
        rcases List.mem_cons.mp z with rfl | z
        · exact ho.1 rfl
        · rcases List.mem_cons.mp z with rfl | z
          · exact ho.2 rfl
          · cases z) a) (b.tx g.1.2 f)
    | tup a b => exact (Im.tup a b).tx g.1.2 f
end
end Pd
set_option Elab.async false
set_option linter.all false
set_option maxRecDepth 100000
set_option maxHeartbeats 2000000
/-! Mt: match of a tuple, its first item a text that tells the case. -/
namespace Pd
open PySem PySem.Spec PyProof.Rows L2 Evl
/-- the slots that the names take; none: no name -/
def setAll : L2.St → List (Option Nat) → List V → L2.St
  | σ, some i :: is, v :: vs => setAll (σ.set i (some v)) is vs
  | σ, none :: is, _ :: vs => setAll σ is vs
  | σ, _, _ => σ
abbrev TMc := List V → TS
def mEnd : TMc := fun _ D σ H => D.nx σ H
def mSeq (w : Str) (is : List (Option Nat)) (tb : TS) (tr : TMc) : TMc := fun xs D σ H => if xs.length = is.length + 1 then ∃ x vs, xs = .str x :: vs ∧ (if x = w then tb D (setAll σ is vs) H else tr xs D σ H) else tr xs D σ H
def tMatch (K : PySem.W.Frag) (te : TE) (tm : TMc) : TS := fun D σ H => te σ H fun x H1 => ∃ a xs, x = .ref a ∧ SqT K H1 a xs ∧ tm xs D σ H1
structure PMc (X : Cx) (cases : List MatchCase) (t : TMc) : Prop where
  run : ∀ (pins : List (Addr × Obj)) (s : Shared) (σ : L2.St) (H : Hp) (D : Ends) (a : Addr) (xs : List V) (first : Bool), Inv X pins σ H s → SqT X.K H a xs → t xs D σ H → wpAny (model X.prog X.w) X.A (matchCases cases X.env (.ref a) first) (SP X pins D) X.xe s
inductive CapOk (X : Cx) : List Pattern → List (Option Nat) → Prop
  | nil : CapOk X [] []
  | name {n : Str} {i : Nat} {pos : Pos} {ps : List Pattern} {is : List (Option Nat)} : X.N[i]? = some n → Loc X.env.scope n → (X.fn n = true ∨ X.env.scope.names.lookup n = some .local) → CapOk X ps is → CapOk X (.MatchAs none (some n) pos :: ps) (some i :: is)
  | any {pos : Pos} {ps : List Pattern} {is : List (Option Nat)} : CapOk X ps is → CapOk X (.MatchAs none none pos :: ps) (none :: is)
def caps : List Pattern → List Value → List (Str × Value)
  | .MatchAs none name _ :: ps, u :: us => (name.map (·, u)).toList ++ caps ps us
  | _, _ => []
section
variable {X : Cx}
theorem CapOk.len {ps : List Pattern} {is : List (Option Nat)} (h : CapOk X ps is) : ps.length = is.length := by
  induction h with
  | nil => rfl
  | name _ _ _ _ ih => simp [ih]
  | any _ ih => simp [ih]
theorem match_caps {M : Model} {A : Around} {E : Value → Shared → Prop} {ps : List Pattern} {is : List (Option Nat)} (h : CapOk X ps is) : ∀ {us : List Value} {s : Shared} {Q : Option (List (Str × Value)) → Shared → Prop}, us.length = ps.length → Q (some (caps ps us)) s → wpAny M A (matchEach ps X.env us) Q E s := by
  induction h with
  | nil => intro us s Q hl q; exact wpAny_matchEach_nil q
  | @name n i pos ps is h1 h2 h3 h4 ih =>
    intro us s Q hl q
    cases us with
    | nil => simp at hl
    | cons u us =>
      refine wpAny_matchEach_cons (wpAny_matchPattern_Capture ?_)
      refine ih (by simpa using hl) ?_
      exact q
  | @any pos ps is h4 ih =>
    intro us s Q hl q
    cases us with
    | nil => simp at hl
    | cons u us =>
      refine wpAny_matchEach_cons (wpAny_matchPattern_Capture ?_)
      refine ih (by simpa using hl) ?_
      exact q
theorem bind_caps (hN : X.N.Nodup) {E : Value → Shared → Prop} {ps : List Pattern} {is : List (Option Nat)} (h : CapOk X ps is) : ∀ {us : List Value} {vs : List V} {pins : List (Addr × Obj)} {σ : L2.St} {H : Hp} {s : Shared} {Q : Unit → Shared → Prop}, Vals vs us → us.length = ps.length → Inv X pins σ H s →
    (∀ s', Inv X pins (setAll σ is vs) H s' → Q () s') → wpAny (model X.prog X.w) X.A (assignInOrder ((caps ps us).map fun (n, _) => bindName X.env n) ((caps ps us).map (·.2))) Q E s := by
  induction h with
  | nil =>
    intro us vs pins σ H s Q r hl I q
    cases us with
    | nil => cases r; exact assignInOrder_nil (q s I)
    | cons u us => simp at hl
  | @name n i pos ps is h1 h2 h3 h4 ih =>
    intro us vs pins σ H s Q r hl I q
    cases us with
    | nil => simp at hl
    | cons u us =>
      cases r with
      | cons rv rvs =>
        refine assignInOrder_cons (wpAny_bindName (store_ok I hN h1 h2 rv (fun s' I' => ?_) h3))
        exact ih rvs (by simpa using hl) I' q
  | @any pos ps is h4 ih =>
    intro us vs pins σ H s Q r hl I q
    cases us with
    | nil => simp at hl
    | cons u us =>
      cases r with
      | cons rv rvs => exact ih rvs (by simpa using hl) I q
theorem pmc_nil : PMc X [] mEnd := ⟨fun pins s σ H D a xs first I hq h => wpAny_matchCases_nil ⟨σ, H, I, h⟩⟩
theorem pmc_seq {w : Str} {j : Nat} {ps : List Pattern} {is : List (Option Nat)} {body : List Stmt} {rest : List MatchCase} {tb : TS} {tr : TMc} {p1 p2 p3 : Pos} (hc : X.calm = true) (hN : X.N.Nodup) (hps : CapOk X ps is) (hb : PSs X body tb) (hr : PMc X rest tr)
    (hstar : (Pattern.MatchValue (.Constant (.str w) j p1) p2 :: ps).findIdx? (·.isStar) = none := by rfl) (hwild : ((Pattern.MatchValue (.Constant (.str w) j p1) p2 :: ps).all fun p => p.isWildcard || (p.isStar && p.names.isEmpty)) = false := by rfl) :
    PMc X (⟨.MatchSequence (.MatchValue (.Constant (.str w) j p1) p2 :: ps) p3, none, body⟩ :: rest) (mSeq w is tb tr) := by
  refine ⟨fun pins s σ H D a xs first I hq h => ?_⟩
  obtain ⟨its, rv, ht, hz⟩ := I.tuple hq
  have hl : xs.length = its.length := rv.length
  refine wpAny_matchCases_cons (wpAny_matchPattern_Sequence (wpAny_collectionFlag ht.typeIs flag_seq_tuple ?_) hstar hwild)
  show wpAny _ _ (pyLen (.ref a)) _ _ s
  have hfit : (its.toArray.size : Int) < 2 ^ 63 := by
    have : its.toArray.size ≤ sizeLine := by simpa [← hl] using hz
    rw [sizeLine_eq] at this
    omega
  refine pyLen_tuple ht hfit ?_
  have I1 : Inv X pins σ H { s with toks := s.toks + 1 + 1 } := I.tok _
  have hlen : (Pattern.MatchValue (.Constant (.str w) j p1) p2 :: ps).length = is.length + 1 := by rw [List.length_cons, hps.len]
  unfold mSeq at h
  by_cases hn : xs.length = is.length + 1
  · rw [if_pos hn] at h
    obtain ⟨x, vs, rfl, h⟩ := h
    cases rv with
    | @cons _ u0 _ us r0 rvs =>
      have he : ¬ ((((u0 :: us).toArray.size : Nat) : Int) != ((Pattern.MatchValue (.Constant (.str w) j p1) p2 :: ps).length : Int)) = true := by
        rw [hlen, ← hn, hl]
        simp
      rw [if_neg he]
      have hps2 : us.length = ps.length := by
        have := hps.len
        simp only [List.length_cons] at hn hl
        omega
      have hsz : (Pattern.MatchValue (.Constant (.str w) j p1) p2 :: ps).length = (u0 :: us).toArray.size := by simp [hps2]
      rw [hsz]
      refine unpackItems_tuple (I.ok.hd hc) ht fun h' hx => ?_
      have I2 : Inv X pins σ H { s with heap := h', toks := s.toks + 1 + 1 } := I1.kept (t' := s.toks + 1 + 1) fun b o e => hx b o (Nat.ne_of_lt (Heap.lt_size e)) e
      show wpAny _ _ (matchEach (_ :: ps) X.env (u0 :: us)) _ _ _
      refine wpAny_matchEach_cons (wpAny_matchPattern_Value (thn ((pe_str (X := X) (x := w) (j := j) (pos := p1)).run pins _ σ H (fun v H' => v = .str w ∧ H' = H) I2 ⟨rfl, rfl⟩) fun u s2 ⟨v, H1, I3, ru, e1, e2⟩ => ?_))
      subst e1 e2
      refine thn (op_eq pins s2 σ H1 (.str x) (.str w) u0 u (fun z H' => z = .bl (decide (x = w)) ∧ H' = H1) I3 r0 ru ⟨rfl, ?_, rfl⟩) fun cv s3 ⟨z, H2, I4, rz, e3, e4⟩ => ?_
      · by_cases c : x = w <;> simp [c]
      subst e3 e4
      cases rz
      refine wpAny_truthy_bool ?_
      by_cases c : x = w
      · rw [if_pos c] at h
        rw [decide_eq_true c]
        show wpAny _ _ (matchEach ps X.env us) _ _ s3
        refine match_caps hps hps2 ?_
        show wpAny _ _ (assignInOrder (([] ++ caps ps us : List (Str × Value)).map fun (n, _) => bindName X.env n) (([] ++ caps ps us : List (Str × Value)).map (·.2))) _ _ s3
        rw [List.nil_append]
        refine bind_caps hN hps rvs hps2 I4 fun s' I' => ?_
        exact hb.run pins s' _ H2 D I' h
      · rw [if_neg c] at h
        rw [decide_eq_false c]
        exact hr.run pins s3 σ H2 D a _ false I4 hq h
  · rw [if_neg hn] at h
    have he : ((((its.toArray.size : Nat) : Int)) != ((Pattern.MatchValue (.Constant (.str w) j p1) p2 :: ps).length : Int)) = true := by
      rw [hlen]
      simp only [List.size_toArray, bne_iff_ne, ne_eq]
      omega
    rw [if_pos he]
    exact hr.run pins _ σ H D a xs false I1 hq h
theorem ps_match {e : Expr} {te : TE} {cases : List MatchCase} {tm : TMc} {pos : Pos} (he : PE X e te) (hm : PMc X cases tm) : PS X (.Match e cases pos) (tMatch X.K te tm) := by
  refine ⟨fun pins s σ H D I h => ?_⟩
  refine wpAny_Match (thn (he.run pins s σ H _ I h) fun u s1 ⟨x, H1, I1, rx, a, xs, ex, hq, h1⟩ => ?_)
  subst ex
  cases rx
  exact hm.run pins s1 σ H1 D a xs true I1 hq h1
end
end Pd
set_option Elab.async false
set_option linter.all false
set_option maxRecDepth 100000
set_option maxHeartbeats 2000000
/-! En: enumerate(a tuple). -/
namespace Pd
open PySem PySem.Spec PyProof.Rows L2 Evl
open AutoSeq1 (wpAny_loadPart')
theorem enum_newT (l : Addr) (items : Array Value) (n : Nat) (dct : Option Addr) (sl : Array (Option Value)) :
    Meets (Builtin.«enumerate.__new__» ⟨[.type "enumerate", .ref l], []⟩) (fun _ R s => s.heap.get? l = some { cls := .type "tuple", dict := dct, data := .seq items n, slots := sl } ∧
      R (.ok (.ret (.ref (s.heap.push { cls := .type "tuple_iterator", data := .fields #[.ref l, .int 0 0] }).objs.size)))
        { s with heap := (s.heap.push { cls := .type "tuple_iterator", data := .fields #[.ref l, .int 0 0] }).push { cls := .type "enumerate", data := .fields #[.none, .bool false, .ref s.heap.objs.size, rawInt 0, .none, .none] } }) :=
  .of_wp fun prog w A R s h => by
    obtain ⟨hp, g, d, tk, os⟩ := s; obtain ⟨hl, h⟩ := h
    have hsub := sub_enumerate
    have hL : IsTup (Shared.heap ⟨hp, g, d, tk, os⟩) l items := ⟨_, hl, rfl, n, rfl⟩
    wp_walk using wpAny_loadPart' hl
    refine wpAny_stack_any fun st => wpAny_pure ?_
    split
    · rename_i c _ _ _ _ _
      cases (c == Value.type "enumerate")
      · wp_walk using wpAny_loadPart' hl, iter_tuple hL
        exact ⟨_, rfl, h⟩
      · wp_walk using wpAny_loadPart' hl, iter_tuple hL
        exact ⟨_, rfl, h⟩
    · wp_walk using wpAny_loadPart' hl, iter_tuple hL
      exact ⟨_, rfl, h⟩
section
variable {prog : Program} {w : World} {A : Around} {E : Value → Shared → Prop} {s : Shared}
theorem call_enumT {l : Addr} {items : Array Value} {Q : Value → Shared → Prop} (hL : IsTup s.heap l items)
    (h : ∀ h', IsEnum h' (s.heap.objs.size + 1) s.heap.objs.size 0 .none → h'.IsTupleIter s.heap.objs.size l 0 → h'.objs.size = s.heap.objs.size + 2 →
      (∀ b o, s.heap.get? b = some o → h'.get? b = some o) → Q (.ref (s.heap.objs.size + 1)) { s with heap := h' }) :
    wpAny (model prog w) A (call (.type "enumerate") [.ref l]) Q E s := by
  obtain ⟨⟨c, dct, dt, sl⟩, hl, hc, n, hd⟩ := hL
  replace hc : c = .type "tuple" := hc
  replace hd : dt = .seq items n := hd
  subst hc hd
  refine callType_new F.called_enumerate (by decide) (F.typeCall_enumerate_1 _) (F.newCall_enumerate_1 _) (fun obj => F.args_object_init_2 obj _) F.entry_enumerate_new
    (enum_newT l items n dct sl) ⟨hl, ?_⟩
  have hz : (s.heap.push { cls := .type "tuple_iterator", data := .fields #[.ref l, .int 0 0] }).objs.size = s.heap.objs.size + 1 := Heap.size_push ..
  show _ ∧ _
  rw [hz]
  have he : IsEnum ((s.heap.push { cls := .type "tuple_iterator", data := .fields #[.ref l, .int 0 0] }).push
      { cls := .type "enumerate", data := .fields #[.none, .bool false, .ref s.heap.objs.size, rawInt 0, .none, .none] }) (s.heap.objs.size + 1) s.heap.objs.size 0 .none := by
    have := Heap.get?_push_size (s.heap.push { cls := .type "tuple_iterator", data := .fields #[.ref l, .int 0 0] })
      (o := { cls := .type "enumerate", data := .fields #[.none, .bool false, .ref s.heap.objs.size, rawInt 0, .none, .none] }) rfl
    rw [hz] at this; exact this
  refine ⟨⟨_, he, rfl⟩, h _ he ⟨_, Heap.get?_push_of_some _ (Heap.get?_push_size _ rfl), rfl, rfl⟩ (by rw [Heap.size_push, hz]) fun b o x => Heap.get?_push_of_some _ (Heap.get?_push_of_some _ x)⟩
end
/-- the tuple at a, each item in a new pair -/
def Iet (K : PySem.W.Frag) (a : Addr) : It :=
  ⟨fun i H => ∃ (xs : List V) (x : V), SqT K H a xs ∧ xs[i]? = some x, fun i H v H' => ∃ T x, v = .ref T ∧ H T = none ∧ H' = upd H T (.tup [.int (i : Nat), x]) ∧ ∀ xs, SqT K H a xs → xs[i]? = some x, fun i H => ∃ xs : List V, SqT K H a xs ∧ xs.length ≤ i⟩
theorem IsTup.isTuple {h : Heap} {a : Addr} {items : Array Value} (x : IsTup h a items) : h.IsTuple a items := x
theorem turn_enumT {P : Program} {w : World} {K : PySem.W.Frag} {elts : List Expr} {kk : Nat} {tpos : Pos} (a e it : Addr) :
    Turn P w K (.Tuple elts kk tpos) (Iet K a) [e, it] e (fun i h => (∃ old, IsEnum h e it ((i : Nat) : Int) old) ∧ h.IsTupleIter it a i ∧ e ≠ it) where
  mem := by simp
  obj := fun i h st b hb => by
    obtain ⟨⟨old, he⟩, ⟨o, ho, hc, hd⟩, _⟩ := st
    have e' : b = e ∨ b = it := by simpa using hb
    rcases e' with z | z
    · rw [z]; exact ⟨_, he, fun v q => nomatch q⟩
    · rw [z]; exact ⟨o, ho, fun v q => by rw [hd] at q; cases q⟩
  keep := fun i h h' st k => let ⟨⟨old, he⟩, hi, hne⟩ := st; ⟨⟨old, k e (by simp) _ he⟩, hi.at fun o q => k it (by simp) o q, hne⟩
  item := by
    intro X hP hw hK hc i pins s σ H E I hf st hg
    subst hP hw hK
    obtain ⟨⟨old, he⟩, hit, hne⟩ := st
    obtain ⟨xs, x, hq, hx⟩ := hg
    obtain ⟨its, rv, p, hz⟩ := I.tuple hq
    obtain ⟨u, hu, ru⟩ := rv.get hx
    have hel : e < s.heap.objs.size := Heap.lt_size he
    have hil : it < s.heap.objs.size := by obtain ⟨_, q, _⟩ := hit; exact Heap.lt_size q
    have hai : a ≠ it := fun z => by
      obtain ⟨o1, g1, c1, _⟩ := p
      obtain ⟨o2, g2, c2, _⟩ := hit
      rw [z, g2] at g1
      cases g1
      rw [c2] at c1
      exact absurd (Value.type.inj c1) (by decide)
    have hae : a ≠ e := fun z => by
      obtain ⟨o1, g1, c1, _⟩ := p
      rw [z, he] at g1
      cases g1
      have c1' : Value.type "enumerate" = Value.type "tuple" := c1
      exact absurd (Value.type.inj c1') (by decide)
    have hlt : i < its.toArray.size := by
      have := (List.getElem?_eq_some_iff.mp hu).1
      simpa using this
    refine wpAny_pyNext_enum_itemD (Draws.tuple (show X.A.in1.handled = none from I.ok.hd hc) it a hai its.toArray) he ⟨hit, p⟩ hlt hne (by simp [hne, Ne.symm hae]) fun x' h' tk hx' ho hit' hT hsz hk => ?_
    have exx : x' = u := by
      have : its.toArray[i]? = some u := by simpa using hu
      rw [this] at hx'
      exact (Option.some.inj hx').symm
    subst exx
    refine ⟨_, rfl, wpAny_letOwnedTupleGo_enum (s := { s with heap := h', toks := tk + 1 }) ho fun h'' he' sb => ?_⟩
    have hT2 : h''.get? s.heap.objs.size = some { cls := .type "tuple", data := .seq #[.int i tk, x'] } := (sb.2 _ (Nat.ne_of_gt hel)).trans hT
    have new : ObjOk X.prog X.w (upd H s.heap.objs.size (.tup [.int (i : Nat), x])) h'' s.heap.objs.size (.tup [.int (i : Nat), x]) :=
      ⟨by show 2 ≤ sizeLine; decide, [.int i tk, x'], .cons ⟨_, rfl⟩ (.cons ru .nil), ⟨_, hT2, rfl, _, rfl⟩⟩
    have I1 : Inv X pins σ (upd H s.heap.objs.size (.tup [.int (i : Nat), x])) { s with heap := h'', toks := tk + 1 } :=
      I.turnedNew (ch := [e, it]) (fun b ob hb q => (sb.2 b (fun z => hb (by simp [z]))).trans (hk b ob (fun z => hb (by simp [z])) (fun z => hb (by simp [z])) q)) hf (Nat.le_refl _) new
    refine ⟨.ref s.heap.objs.size, _, I1, rfl, ⟨_, x, rfl, I.hok.fresh (Nat.le_refl _), rfl, fun ys hy => by rw [I.tuple_inj hy hq]; exact hx⟩, ⟨⟨x', ?_⟩, hit'.1.at fun o q => (sb.2 it (Ne.symm hne)).trans q, hne⟩, fun b hb => ?_⟩
    · have e1 : ((i + 1 : Nat) : Int) = (i : Int) + 1 := by omega
      rw [e1]; exact he'
    · have hb' : b < s.heap.objs.size := by
        have e' : b = e ∨ b = it := by simpa using hb
        rcases e' with z | z
        · rw [z]; exact hel
        · rw [z]; exact hil
      rw [upd_ne (Nat.ne_of_lt hb')]
      exact (hf b hb).1
  done := by
    intro X hP hw hK hc i pins s σ H E I hf st hg
    subst hP hw hK
    obtain ⟨⟨old, he⟩, hit, hne⟩ := st
    obtain ⟨xs, hq, hx⟩ := hg
    obtain ⟨its, rv, p, hz⟩ := I.tuple hq
    obtain ⟨f0, f1, f2, f3, f4, f5⟩ := hf it (by simp)
    have hl := rv.length
    have hT : s.TypeIs (.ref e) "enumerate" := ⟨_, he, rfl⟩
    unfold pyNext
    refine wpAny_bind (wpAny_attempt (wpAny_callSpecial?_slot (name := Str.ofString "__next__") hT F.slot_enumerate_next
      (wpAny_call_entry F.slot_enumerate_next hT F.entry_enumerate_next ?_ (F.args_enumerate_next_1 _))))
    show wpAny _ _ (field (.ref e) 2 >>= _) _ _ _
    refine wpAny_bind (wpAny_field he rfl (x := .ref it) rfl ?_)
    refine wpAny_bind (wpAny_nextOf_tuple_end (show X.A.in1.handled = none from I.ok.hd hc) hit p (by simp; omega) fun h' x he' hx' => ?_)
    obtain ⟨o, ho, hc'⟩ := hx'
    refine wpAny_bind (wpAny_isInstance (T := "StopIteration") (b := true) ⟨o, ho, hc'⟩ isSubtype_stop ?_)
    exact wpAny_pure ⟨rfl, I.turned (t' := s.toks) (fun b o hb q => he' b o hb q) f0 f1 f3 f4 f5⟩
  self := fun A i s Q E st h => let ⟨⟨_, he⟩, _⟩ := st; wpAny_pyIter_enum he h
def iEnumT (K : PySem.W.Frag) (ta : TA) : TI := fun σ H R => ta σ H fun vs H1 => ∃ a xs, vs = [.ref a] ∧ SqT K H1 a xs ∧ R (Iet K a) H1
theorem pi_enumT {X : Cx} {e : Expr} {ta : TA} {p pos tpos : Pos} {elts : List Expr} {kk : Nat} (hg : Gl X "enumerate") (hm : X.mg "enumerate" = none) (ha : PA X [e] ta) (hs : starEach [e] X.env = [(false, eval e X.env)] := by rfl) :
    PI X (.Tuple elts kk tpos) (.Call (.Name "enumerate" p) [e] [] pos) (iEnumT X.K ta) := by
  refine ⟨fun pins s σ H R I h => ?_⟩
  refine PyProof.Rows.Call_ (ld_blt I hg hm boot_enumerate (PyProof.Rows.callWith_type1 (thn (ha.run pos pins s σ H _ I h) fun us s1 ⟨vs, H1, I1, r1, q1⟩ => ?_) hs rfl))
  obtain ⟨a, xs, ex, hq, q⟩ := q1
  subst ex
  cases r1 with
  | cons r rr =>
    cases rr
    cases r
    obtain ⟨its, rv, p', hz⟩ := I1.tuple hq
    refine call_enumT p' fun h' he hit hsz hk => wpAny_pyIter_enum he ?_
    have I2 : Inv X pins σ H1 { s1 with heap := h' } := I1.kept (t' := s1.toks) hk
    refine ⟨s1.heap.objs.size + 1, [s1.heap.objs.size + 1, s1.heap.objs.size], _, _, H1, rfl, I2, turn_enumT a (s1.heap.objs.size + 1) s1.heap.objs.size, ⟨⟨.none, he⟩, hit, Nat.succ_ne_self _⟩, fun b hb => ?_, q⟩
    have e' : b = s1.heap.objs.size + 1 ∨ b = s1.heap.objs.size := by simpa using hb
    have hle : s1.heap.objs.size ≤ b := by
      rcases e' with z | z
      · rw [z]; exact Nat.le_add_right _ _
      · rw [z]; exact Nat.le_refl _
    exact I1.fpOk hle (I1.hok.fresh hle)
theorem k_pi_enumT {X : Cx} {K : PySem.W.Frag} (hK : X.K = K) {e : Expr} {ta : TA} {p pos tpos : Pos} {elts : List Expr} {kk : Nat} (hg : Gl X "enumerate") (hm : X.mg "enumerate" = none) (ha : PA X [e] ta) (hs : starEach [e] X.env = [(false, eval e X.env)] := by rfl) :
    PI X (.Tuple elts kk tpos) (.Call (.Name "enumerate" p) [e] [] pos) (iEnumT K ta) := by subst hK; exact pi_enumT hg hm ha hs
theorem walk_enumT {K : PySem.W.Frag} {a : Addr} {xs : List V} : Walk (Iet K a) xs.length (fun H => SqT K H a xs) (YPair (fun i => some (.int (i : Nat))) (fun i => xs[i]?)) :=
  ⟨fun i _ hi q => ⟨xs, xs[i], q, by simp [hi]⟩, fun _ q => ⟨xs, q, Nat.le_refl _⟩, fun i H v H' _ q y => by
    obtain ⟨T, x, e1, e2, e3, e4⟩ := y
    exact ⟨T, _, x, e1, e2, e3, rfl, e4 xs q⟩⟩
theorem wm_enumT {K : PySem.W.Frag} {σ : L2.St} {H : Hp} {tl : TE} {ds : List PyData} {M : List Addr} (h : EvD tl σ H (.tuple ds)) (hs : stills ds = true) : WkM M (iEnumT K (tCons tl tNil)) σ H (numbered 0 ds) := fun H1 e R r =>
  h H1 e _ fun v H2 e2 iv => by
    obtain ⟨p, xs, rfl, g1, g2⟩ := iv.t
    refine ⟨p, xs, rfl, SqT.of g1, r _ H2 (fun H => SqT K H p xs) (YPair (fun i => some (.int (i : Nat))) (fun i => xs[i]?)) e2 (by rw [numbered_length, ← g2.length]; exact walk_enumT) (fun H3 e3 => SqT.of (e3.2 _ _ g1)) fun i H3 x H4 e3 yy => ?_⟩
    obtain ⟨T, a, b, rfl, hT, rfl, ha, hb⟩ := yy
    obtain ⟨d2, hd2, im2⟩ := (g2.tx e3.2 hs).get hb
    have ea : a = .int (i : Nat) := (Option.some.inj ha).symm
    subst ea
    refine ⟨Ex.new hT, .tuple [.int (i : Nat), d2], ?_, .tup upd_same (.cons (.int _) (.cons (im2.mono (Ex.new hT)) .nil))⟩
    have := numbered_get ds 0 i d2 hd2
    rw [Nat.zero_add] at this
    exact this
end Pd
set_option Elab.async false
set_option linter.all false
set_option maxRecDepth 100000
set_option maxHeartbeats 2000000
/-! Cm: methods and instances. -/
namespace Pd
open PySem PySem.Spec PyProof.Rows L2 Evl
/-- a method of the class at C, its promise kept -/
structure CalM (P : Program) (w : World) (K : PySem.W.Frag) (mg : Str → Option Value) (base : Heap) (CX : CXT) (k : Nat) (C : Addr) (m : Str) (ps : List Str) (sp : Sp) : Prop where
  ex : ∃ (f : Addr) (fd : FuncData), Meth K C m f ∧ Binds K fd ps [] ∧ FnOk P w K mg base CX k f fd ps sp
structure SrcM (K : PySem.W.Frag) (C : Addr) (m qual : Str) (st : Stmt) (ps : List Str) : Prop where
  ex : ∃ (f : Addr) (fd : FuncData), Meth K C m f ∧ Fun K m qual st f fd ∧ Binds K fd ps []
/-- the making of an instance -/
structure CalC (P : Program) (w : World) (K : PySem.W.Frag) (mg : Str → Option Value) (base : Heap) (CX : CXT) (k : Nat) (x : Str) (C : Addr) (ps : List Str) (sp : Sp) : Prop where
  ex : ∃ (f : Addr) (fd : FuncData), mg x = some (.ref C) ∧ Mk K C f ∧ Binds K fd ps [] ∧ FnOk P w K mg base CX k f fd ps sp
structure SrcC (K : PySem.W.Frag) (mg : Str → Option Value) (x : Str) (C : Addr) (qual : Str) (st : Stmt) (ps : List Str) : Prop where
  ex : ∃ (f : Addr) (fd : FuncData), mg x = some (.ref C) ∧ Mk K C f ∧ Fun K "__init__" qual st f fd ∧ Binds K fd ps []
section
variable {P : Program} {w : World} {K : PySem.W.Frag} {mg : Str → Option Value} {base : Heap}
theorem SrcM.cal {C : Addr} {m qual : Str} {st : Stmt} {N ps : List Str} {k : Nat} {sp : Sp} (F : SrcM K C m qual st ps) (S : FnScope N ps (defScope st)) (len : ∀ vs H Q E, sp vs H Q E → vs.length = ps.length)
    (hbody : ∀ (f : Addr) (cdv : Value) (A : Around) (outer : List Env) (s : Shared) (H : Hp) (vs : List V) (Q : VK) (E : XK), Room k (A.deeper (envOfC qual (defScope st) s.heap.objs.size f cdv)) → sp vs H Q E →
      ∃ t, PSs (cxOf CX0 P w K mg base N qual (defScope st) f cdv A outer s H E).nox (defBody st) t ∧ t { nx := fun _ H' => Q .non H', rt := Q } (start N vs) H) : CalM P w K mg base CX0 (k + 1) C m ps sp := by
  obtain ⟨f, fd, hm, hF, hb⟩ := F.ex
  exact ⟨f, fd, hm, hb, hF.ok S len fun cdv A outer s H vs Q E => hbody f cdv A outer s H vs Q E⟩
theorem SrcC.calX {x : Str} {C : Addr} {qual : Str} {st : Stmt} {N ps : List Str} {k : Nat} {sp : Sp} (F : SrcC K mg x C qual st ps) (S : FnScope N ps (defScope st)) (len : ∀ vs H Q E, sp vs H Q E → vs.length = ps.length)
    (hbody : ∀ (f : Addr) (cdv : Value) (A : Around) (outer : List Env) (s : Shared) (H : Hp) (vs : List V) (Q : VK) (E : XK), Room k (A.deeper (envOfC qual (defScope st) s.heap.objs.size f cdv)) → sp vs H Q E →
      ∃ t, PSs (cxOf (L2.CX P w) P w K mg base N qual (defScope st) f cdv A outer s H E) (defBody st) t ∧ t { nx := fun _ H' => Q .non H', rt := Q } (start N vs) H) : CalC P w K mg base (L2.CX P w) (k + 1) x C ps sp := by
  obtain ⟨f, fd, hx, hm, hF, hb⟩ := F.ex
  exact ⟨f, fd, hx, hm, hb, hF.okX S len fun cdv A outer s H vs Q E => hbody f cdv A outer s H vs Q E⟩
theorem SrcC.cal {x : Str} {C : Addr} {qual : Str} {st : Stmt} {N ps : List Str} {k : Nat} {sp : Sp} (F : SrcC K mg x C qual st ps) (S : FnScope N ps (defScope st)) (len : ∀ vs H Q E, sp vs H Q E → vs.length = ps.length)
    (hbody : ∀ (f : Addr) (cdv : Value) (A : Around) (outer : List Env) (s : Shared) (H : Hp) (vs : List V) (Q : VK) (E : XK), Room k (A.deeper (envOfC qual (defScope st) s.heap.objs.size f cdv)) → sp vs H Q E →
      ∃ t, PSs (cxOf CX0 P w K mg base N qual (defScope st) f cdv A outer s H E).nox (defBody st) t ∧ t { nx := fun _ H' => Q .non H', rt := Q } (start N vs) H) : CalC P w K mg base CX0 (k + 1) x C ps sp := by
  obtain ⟨f, fd, hx, hm, hF, hb⟩ := F.ex
  exact ⟨f, fd, hx, hm, hb, hF.ok S len fun cdv A outer s H vs Q E => hbody f cdv A outer s H vs Q E⟩
end
section
variable {X : Cx} {CX : CXT} {k : Nat} {ps : List Str} {sp : Sp} {E : XK} {x m : Str} {p pos apos : Pos} {e o : Expr} {es : List Expr} {t : TA} {ta : TE} {C : Addr}
theorem pe_calM {pl : Sem Bool} (M : CalM X.prog X.w X.K X.mg X.base CX k C m ps sp) (c : Cls X.K C) (hr : Room k X.A) (hx : Passes CX X E) (he : PE X o ta) (ha : PA X (e :: es) t)
    (hst : starEach (e :: es) X.env = (false, eval e X.env) :: starEach es X.env := by rfl) (hpl : (backTo pos (starEach es X.env)).any (·.1) = false := by rfl)
    (ht : eval (.Call (.Attribute o m apos) (e :: es) [] pos) X.env = (do
      let ov ← eval o X.env
      standAt apos.atName
      let (f, first) ← holding [ov] (getMethod ov m pl)
      callWith pos f first (backTo pos (starEach (e :: es) X.env)) (backToKw pos (keywordEach [] X.env))) := by rfl) :
    PE X (.Call (.Attribute o m apos) (e :: es) [] pos) (tMeth C m sp [] E ta t) := by
  obtain ⟨f, fd, hm, hb, F⟩ := M.ex
  exact pe_meth he c hm F hr hb .nil hx ha hst hpl ht
theorem pe_mkC (M : CalC X.prog X.w X.K X.mg X.base CX k x C ps sp) (hr : Room (k + 1) X.A) (hg : Gl X x) (hx : Passes CX X E)
    (ha : PA X (e :: es) t) (hdb : (x == ("__debug__" : Str)) = false := by decide) (he : starEach (e :: es) X.env = (false, eval e X.env) :: starEach es X.env := by rfl) (hpl : (backTo pos (starEach es X.env)).any (·.1) = false := by rfl) :
    PE X (.Call (.Name x p) (e :: es) [] pos) (tMake C sp [] E t) := by
  obtain ⟨f, fd, hm, hM, hb, F⟩ := M.ex
  exact pe_make hM F hr hg hm hb .nil hx ha hdb he hpl
theorem k_fld {K : PySem.W.Frag} (hK : X.K = K) {f : Str} (he : PE X e ta) (hb : attributeBase e f X.env (eval e X.env) = eval e X.env) : PE X (.Attribute e f pos) (tFld K ta f) := by subst hK; exact pe_fld he hb
end
section
variable {K : PySem.W.Frag} {σ : L2.St} {H H' : Hp} {ta tb te tx tl to : TE} {x y z v : V} {d d' : PyData} {ds : List PyData} {C a dx : Addr} {fs : List (Str × V)} {f m : Str}
theorem ed_fld (h : Ev ta σ H (.ref a)) (hi : H a = some (.ins C dx fs)) (hc : Cls K C) (hn : NoAttr K C f) (hl : fs.lookup f = some v) (hv : Im H v d) : EvD (tFld K ta f) σ H d := fun H1 e Q q =>
  h H1 e _ fun H2 e2 => ⟨a, C, dx, fs, v, rfl, (e.trans e2) _ _ hi, hc, hn, hl, q v H2 e2 (hv.mono (e.trans e2))⟩
/-- a method of an instance, its answer a datum -/
def SpS {α : Type} (S : α → Addr → Hp → Prop) (R : α → List PyData → PyData → Prop) : Sp := fun vs H Q _ => ∃ (x : α) (a : Addr) (ws : List V) (ds : List PyData) (d : PyData), vs = .ref a :: ws ∧ S x a H ∧ Ims H ws ds ∧ R x ds d ∧ ∀ v H', Ex H H' → Im H' v d → Q v H'
theorem ed_meth {α : Type} {S : α → Addr → Hp → Prop} {R : α → List PyData → PyData → Prop} {E : XK} {ta : TE} {tar : TA} {x : α} (ho : Ev ta σ H (.ref a)) (hi : H a = some (.ins C dx fs)) (hl : fs.lookup m = none) (hS : S x a H) (hm : ∀ H1, Ex H H1 → S x a H → S x a H1) (hd : EvDs tar σ H ds) (hR : R x ds d) :
    EvD (tMeth C m (SpS S R) [] E ta tar) σ H d := fun H1 e Q q => ho H1 e _ fun H2 e2 => ⟨a, dx, fs, rfl, (e.trans e2) _ _ hi, hl, hd H2 (e.trans e2) _ fun vs H3 e3 iv => ⟨x, a, vs, ds, d, by rw [List.append_nil], hm H3 ((e.trans e2).trans e3) hS, iv, hR, fun v H4 e4 i4 => q v H4 ((e2.trans e3).trans e4) i4⟩⟩
/-- x in xs, flat values -/
theorem ed_inV {neg : Bool} {ds : List PyData} {xs : List V} (ha : EvD ta σ H d) (hv : ∀ H1 v, Im H1 v d → v = x) (hf : flatV x = true) (hb : EvD tb σ H (.tuple ds)) (hx : ∀ H1 vs, Ims H1 vs ds → vs = xs) (hfs : xs.all flatV = true) : EvD (tOp (rIn K neg) ta tb) σ H (.bool (if neg then !inV x xs else inV x xs)) :=
  ed_op ha hb fun v y H1 e hv1 hy Q q => by
    obtain ⟨p, ys, rfl, h1, h2⟩ := hy.t
    have e1 := hv H1 v hv1
    have e2 := hx H1 ys h2
    subst e1 e2
    exact ⟨p, ys, rfl, .inr (SqT.of h1), hf, hfs, q _ H1 (Ex.refl H1) (.bl _)⟩
/-- == of scalars -/
theorem ed_eqV (ha : EvD ta σ H d) (hb : EvD tb σ H d') (hx : ∀ H1 v, Im H1 v d → v = x) (hy : ∀ H1 v, Im H1 v d' → v = y) (hs : scal x y = true) : EvD (tOp rEq ta tb) σ H (.bool (decide (x = y))) :=
  ed_op ha hb fun v u H1 e hv hu Q q => by
    have e1 := hx H1 v hv
    have e2 := hy H1 u hu
    subst e1 e2
    exact ⟨hs, q _ H1 (Ex.refl H1) (.bl _)⟩
/-- a comprehension whose items are drawn: all new ones are still and hold PD -/
theorem lc_drawn {wi : TI} {j : Nat} {vs : List Nat} {tp c : Addr} {C : List PyData → Hp → Prop} {Q : VK} {PD : PyData → Prop} (T : Tape tp c H) (hk : Run wi σ H [tp, c] C) (hC : ∀ src H2, C src H2 → src.length ≤ 1000 ∧ Go tp c H H2) (hst : ∀ d, PD d → still d = true)
    (hb : ∀ (src : List PyData) (i : Nat) (d : PyData) (x : V) (H2 H1 : Hp), C src H2 → src[i]? = some d → Go tp c H H1 → Im H1 x d → ∀ Q : VK, (∀ v d' H3, Go tp c H1 H3 → PD d' → Im H3 v d' → Q v H3) → te ((wipe σ vs).set j (some x)) H1 Q) (hw : ∀ x, wipe ((wipe σ vs).set j (some x)) vs = wipe σ vs)
    (k : ∀ p xs ds src H2 H', C src H2 → Go tp c H H' → H p = none → (∀ d ∈ ds, PD d) → ds.length = src.length → H' p = some (.lst xs) → Ims H' xs ds → Q (.ref p) H') : tLc wi (gName j) tYes te vs σ H Q := by
  refine hk _ fun J H2 G Y src hc W hG hY Dl hD => ?_
  obtain ⟨hsz, g2⟩ := hC src H2 hc
  have T2 := g2.2
  refine lc_it W (fun i H' => Go tp c H2 H' ∧ ∃ acc ds, acc.length = i ∧ H' Dl = some (.lst acc) ∧ Ims H' acc ds ∧ ds.length = i ∧ ∀ d ∈ ds, PD d)
    ⟨(Go.refl T2).mut T2 hD, [], [], rfl, upd_same, .nil, rfl, fun d hd => by cases hd⟩ (fun i H' _ p => hG H' p.1.1) (fun i x H3 H4 hi p y => ?_) fun H' p => ?_
  · obtain ⟨g, acc, ds, q1, q2, q3, q4, q5⟩ := p
    obtain ⟨e34, d, hd, im⟩ := hY i H3 x H4 g.1 y
    have g4 : Go tp c H2 H4 := g.ex e34
    refine ⟨hw x, ?_⟩
    show te ((wipe σ vs).set j (some x)) H4 _
    refine hb src i d x H2 H4 hc hd (g2.trans g4) im _ fun v d' H5 g5 hp iv => ?_
    have D5 : H5 Dl = some (.lst acc) := g5.at (T2.notin hD) (e34 _ _ q2)
    have hstd : stills ds = true := by
      clear q3 q4
      induction ds with
      | nil => rfl
      | cons a l ih =>
        show (still a && stills l) = true
        rw [hst a (q5 a (List.mem_cons_self ..)), ih fun d hd => q5 d (List.mem_cons_of_mem _ hd)]
        rfl
    refine ⟨acc, D5, sz_lt (by omega), (g4.trans g5).mut T2 hD, acc ++ [v], ds ++ [d'], by rw [List.length_append, q1]; rfl, upd_same, ?_, by rw [List.length_append, q4]; rfl, fun d hd => ?_⟩
    · exact Ims.append (((q3.mono e34).tx g5.1.2 hstd).tx (tx_lst D5) hstd) (.cons (iv.tx (tx_lst D5) (hst d' hp)) .nil)
    · rcases List.mem_append.mp hd with hd | hd
      · exact q5 d hd
      · have : d = d' := by simpa using hd
        rw [this]; exact hp
  · obtain ⟨g, acc, ds, q1, q2, q3, q4, q5⟩ := p
    refine k Dl acc ds src H2 H' hc (g2.trans g) ?_ q5 q4 q2 q3
    cases c0 : H Dl with
    | none => rfl
    | some o =>
      exfalso
      by_cases hm : Dl ∈ [tp, c]
      · exact T2.notin hD hm
      · rw [g2.at hm c0] at hD
        cases hD
end
end Pd
set_option Elab.async false
set_option linter.all false
set_option maxRecDepth 100000
set_option maxHeartbeats 2000000
/-! Zst: zip(a text of plain signs, a tuple). -/
namespace Pd
open PySem PySem.Spec PyProof.Rows L2 Evl
open AutoSeq1 (wpAny_loadPart')
abbrev zsH1 (h : Heap) (x : Str) (t : Tok) : Heap := h.push { cls := .type "str_ascii_iterator", data := .fields #[.str x t, .int 0 0] }
abbrev zsH2 (h : Heap) (x : Str) (t : Tok) (l2 : Addr) : Heap := (zsH1 h x t).push { cls := .type "tuple_iterator", data := .fields #[.ref l2, .int 0 0] }
abbrev zsH3 (h : Heap) (x : Str) (t : Tok) (l2 : Addr) : Heap := (zsH2 h x t l2).push { cls := .type "tuple", data := .seq #[.ref h.objs.size, .ref (zsH1 h x t).objs.size] }
abbrev zsH4 (h : Heap) (x : Str) (t : Tok) (l2 : Addr) : Heap := (zsH3 h x t l2).push { cls := .type "tuple", data := .seq #[.none, .none] }
abbrev zsH5 (h : Heap) (x : Str) (t : Tok) (l2 : Addr) : Heap := (zsH4 h x t l2).push { cls := .type "zip", data := .fields #[.none, .bool false, .bool false, .ref (zsH2 h x t l2).objs.size, .ref (zsH3 h x t l2).objs.size] }
theorem meets_zipS_new (x : Str) (t : Tok) (l2 : Addr) (ys : Array Value) (ha : x.cps.all (· < 128) = true) :
    Meets (Builtin.«zip.__new__» ⟨[.type "zip", .str x t, .ref l2], []⟩) (fun _ R s => s.heap.IsTuple l2 ys ∧
      R (.ok (.ret (.ref (zsH4 s.heap x t l2).objs.size))) { s with heap := zsH5 s.heap x t l2 }) :=
  .of_wp fun prog w A R s h => by
    obtain ⟨hp, g, d, tk, os⟩ := s; obtain ⟨hl2, h⟩ := h
    have hsub := sub_zip
    have hL2 : Heap.IsTuple (Shared.heap ⟨hp.push { cls := .type "str_ascii_iterator", data := .fields #[.str x t, .int 0 0] }, g, d, tk, os⟩) l2 ys := Heap.IsTuple.push hl2 _
    wp_walk using wpAny_pyIter_ascii ha, wpAny_pyIter_tuple hL2
    exact ⟨_, rfl, h⟩
section
variable {prog : Program} {w : World} {A : Around} {E : Value → Shared → Prop} {s : Shared}
theorem call_zipS {x : Str} {t : Tok} {l2 : Addr} {ys : Array Value} {Q : Value → Shared → Prop} (ha : x.cps.all (· < 128) = true) (hl2 : s.heap.IsTuple l2 ys)
    (h : ∀ h', IsZip h' (s.heap.objs.size + 4) (s.heap.objs.size + 2) (s.heap.objs.size + 3) .none → IsTupOf2 h' (s.heap.objs.size + 2) (.ref s.heap.objs.size) (.ref (s.heap.objs.size + 1)) →
      IsTupOf2 h' (s.heap.objs.size + 3) .none .none → h'.IsStrIter s.heap.objs.size "str_ascii_iterator" x t 0 → h'.IsTupleIter (s.heap.objs.size + 1) l2 0 → h'.objs.size = s.heap.objs.size + 5 →
      (∀ c o, s.heap.get? c = some o → h'.get? c = some o) → Q (.ref (s.heap.objs.size + 4)) { s with heap := h' }) :
    wpAny (model prog w) A (call (.type "zip") [.str x t, .ref l2]) Q E s := by
  refine callType_new F.called_zip (by decide) (F.typeCall_zip_2 _ _) (F.newCall_zip_2 _ _) (fun obj => F.args_object_init_3 obj _ _) F.entry_zip_new
    (meets_zipS_new x t l2 ys ha) ⟨hl2, ?_⟩
  have z1 : (zsH1 s.heap x t).objs.size = s.heap.objs.size + 1 := Heap.size_push ..
  have z2 : (zsH2 s.heap x t l2).objs.size = s.heap.objs.size + 2 := by rw [Heap.size_push, z1]
  have z3 : (zsH3 s.heap x t l2).objs.size = s.heap.objs.size + 3 := by rw [Heap.size_push, z2]
  have z4 : (zsH4 s.heap x t l2).objs.size = s.heap.objs.size + 4 := by rw [Heap.size_push, z3]
  have z5 : (zsH5 s.heap x t l2).objs.size = s.heap.objs.size + 5 := by rw [Heap.size_push, z4]
  have g5 : (zsH5 s.heap x t l2).get? (zsH4 s.heap x t l2).objs.size = some _ := Heap.get?_push_size _ rfl
  have g4 : (zsH5 s.heap x t l2).get? (zsH3 s.heap x t l2).objs.size = some _ := Heap.get?_push_of_some _ (Heap.get?_push_size _ rfl)
  have g3 : (zsH5 s.heap x t l2).get? (zsH2 s.heap x t l2).objs.size = some _ := Heap.get?_push_of_some _ (Heap.get?_push_of_some _ (Heap.get?_push_size _ rfl))
  have g2 : (zsH5 s.heap x t l2).get? (zsH1 s.heap x t).objs.size = some _ := Heap.get?_push_of_some _ (Heap.get?_push_of_some _ (Heap.get?_push_of_some _ (Heap.get?_push_size _ rfl)))
  have g1 : (zsH5 s.heap x t l2).get? s.heap.objs.size = some _ := Heap.get?_push_of_some _ (Heap.get?_push_of_some _ (Heap.get?_push_of_some _ (Heap.get?_push_of_some _ (Heap.get?_push_size _ rfl))))
  show _ ∧ _
  rw [z2, z3, z4] at g5
  rw [z1, z2] at g3
  rw [z3] at g4
  rw [z1] at g2
  rw [z4]
  exact ⟨⟨_, g5, rfl⟩, h _ g5 g3 g4 ⟨_, g1, rfl, rfl⟩ ⟨_, g2, rfl, rfl⟩ z5 fun c o x =>
    Heap.get?_push_of_some _ (Heap.get?_push_of_some _ (Heap.get?_push_of_some _ (Heap.get?_push_of_some _ (Heap.get?_push_of_some _ x))))⟩
end
/-- the text and the tuple at b, sign by item, in new pairs -/
def Izs (K : PySem.W.Frag) (x : Str) (b : Addr) : It :=
  ⟨fun i H => ∃ (ys : List V) (y : V) (c : Nat), SqT K H b ys ∧ x.cps[i]? = some c ∧ ys[i]? = some y,
    fun i H v H' => ∃ T c y, v = .ref T ∧ H T = none ∧ H' = upd H T (.tup [.str ⟨#[c]⟩, y]) ∧ x.cps[i]? = some c ∧ ∀ ys, SqT K H b ys → ys[i]? = some y,
    fun i H => ∃ ys : List V, SqT K H b ys ∧ i ≤ x.cps.size ∧ i ≤ ys.length ∧ (i = x.cps.size ∨ i = ys.length)⟩
theorem turn_zipS {P : Program} {w : World} {K : PySem.W.Frag} {elts : List Expr} {kk : Nat} {tpos : Pos} (x : Str) (t : Tok) (b : Addr) {z TI TO i1 i2 : Addr} (D : ZipSep2 z TI TO i1 i2 [i1] [i2, b]) :
    Turn P w K (.Tuple elts kk tpos) (Izs K x b) [z, TI, TO, i1, i2] z (fun i h => IsZip h z TI TO .none ∧ IsTupOf2 h TI (.ref i1) (.ref i2) ∧ (∃ p q, IsTupOf2 h TO p q) ∧ h.IsStrIter i1 "str_ascii_iterator" x t i ∧ h.IsTupleIter i2 b i) where
  mem := by simp
  obj := fun i h st c hc => by
    obtain ⟨hz, hTI, ⟨p, q, hTO⟩, ⟨o1, e1, _, d1⟩, ⟨o2, e2, _, d2⟩⟩ := st
    have e' : c = z ∨ c = TI ∨ c = TO ∨ c = i1 ∨ c = i2 := by simpa using hc
    rcases e' with q | q | q | q | q
    · rw [q]; exact ⟨_, hz, fun v q => nomatch q⟩
    · rw [q]; exact ⟨_, hTI, fun v q => nomatch q⟩
    · rw [q]; exact ⟨_, hTO, fun v q => nomatch q⟩
    · rw [q]; exact ⟨o1, e1, fun v q => by rw [d1] at q; cases q⟩
    · rw [q]; exact ⟨o2, e2, fun v q => by rw [d2] at q; cases q⟩
  keep := fun i h h' st k => by
    obtain ⟨hz, hTI, ⟨p, q, hTO⟩, ⟨o1, e1, r1⟩, h2⟩ := st
    exact ⟨k z (by simp) _ hz, k TI (by simp) _ hTI, ⟨p, q, k TO (by simp) _ hTO⟩, ⟨o1, k i1 (by simp) _ e1, r1⟩, h2.at fun o q => k i2 (by simp) o q⟩
  item := by
    intro X hP hw hK hc i pins s σ H E I hf st hg
    subst hP hw hK
    obtain ⟨hz, hTI, ⟨p0, q0, hTO⟩, h1, h2⟩ := st
    obtain ⟨ys, y, c, hqy, hx, hy⟩ := hg
    obtain ⟨its2, rv2, p2, _⟩ := I.tuple hqy
    obtain ⟨u2, hu2, ru2⟩ := rv2.get hy
    have hzl : z < s.heap.objs.size := Heap.lt_size hz
    have hbi : b ≠ i2 := fun zz => by
      obtain ⟨o1, g1, c1, _⟩ := p2
      obtain ⟨o2, g2, c2, _⟩ := h2
      rw [zz, g2] at g1
      cases g1
      rw [c2] at c1
      exact absurd (Value.type.inj c1) (by decide)
    have l1 : i < x.cps.size := (Array.getElem?_eq_some_iff.mp hx).1
    have l2 : i < its2.toArray.size := by
      have := (List.getElem?_eq_some_iff.mp hu2).1
      simpa using this
    refine wpAny_pyNext_zipD2_item D (Draws.strAscii (show X.A.in1.handled = none from I.ok.hd hc) i1 x t) (Draws.tuple (show X.A.in1.handled = none from I.ok.hd hc) i2 b hbi its2.toArray) hz hTI hTO h1 ⟨h2, p2⟩ l1 l2 fun x1 x2 h' tk hx1 hx2 z' TO' h1' h2' hT hsz hk => ?_
    obtain ⟨c', u', hc', rfl⟩ := hx1
    have ec : c' = c := by rw [hx] at hc'; exact (Option.some.inj hc').symm
    subst ec
    have ex2 : x2 = u2 := by
      have : its2.toArray[i]? = some u2 := by simpa using hu2
      rw [this] at hx2
      exact (Option.some.inj hx2).symm
    subst ex2
    refine ⟨_, rfl, wpAny_letOwnedTupleGo_zip (s := { s with heap := h', toks := tk }) z' fun h'' z'' sb => ?_⟩
    have hT2 : h''.get? s.heap.objs.size = some { cls := .type "tuple", data := .seq #[.str ⟨#[c']⟩ u', x2] } := (sb.2 _ (Nat.ne_of_gt hzl)).trans hT
    have new : ObjOk X.prog X.w (upd H s.heap.objs.size (.tup [.str ⟨#[c']⟩, y])) h'' s.heap.objs.size (.tup [.str ⟨#[c']⟩, y]) :=
      ⟨by show 2 ≤ sizeLine; decide, [.str ⟨#[c']⟩ u', x2], .cons ⟨_, rfl⟩ (.cons ru2 .nil), ⟨_, hT2, rfl, _, rfl⟩⟩
    have I1 : Inv X pins σ (upd H s.heap.objs.size (.tup [.str ⟨#[c']⟩, y])) { s with heap := h'', toks := tk } :=
      I.turnedNew (ch := [z, TI, TO, i1, i2]) (fun c o hb q => (sb.2 c (fun q' => hb (by simp [q']))).trans (hk c o (fun q' => hb (by simp [q'])) (fun q' => hb (by simp [q'])) (fun q' => hb (by simp [q'])) (fun q' => hb (by simp [q'])) q)) hf (Nat.le_refl _) new
    refine ⟨.ref s.heap.objs.size, _, I1, rfl, ⟨_, c', y, rfl, I.hok.fresh (Nat.le_refl _), rfl, hx, fun l hl => by rw [I.tuple_inj hl hqy]; exact hy⟩, ⟨z'', ?_, ⟨.str ⟨#[c']⟩ u', x2, ?_⟩, ?_, ?_⟩, fun c hcm => ?_⟩
    · exact (sb.2 _ D.TIz).trans (hk _ _ D.TIz D.TITO D.TIi1 D.TIi2 hTI)
    · exact (sb.2 _ D.TOz).trans TO'
    · obtain ⟨o1, e1, r1⟩ := h1'
      exact ⟨o1, (sb.2 _ (fun q => D.zi1 q.symm)).trans e1, r1⟩
    · exact h2'.1.at fun o q => (sb.2 _ (fun q => D.zi2 q.symm)).trans q
    · have hlt : c < s.heap.objs.size := by
        have e' : c = z ∨ c = TI ∨ c = TO ∨ c = i1 ∨ c = i2 := by simpa using hcm
        rcases e' with q | q | q | q | q
        · rw [q]; exact hzl
        · rw [q]; exact Heap.lt_size hTI
        · rw [q]; exact Heap.lt_size hTO
        · rw [q]; obtain ⟨_, e1, _⟩ := h1; exact Heap.lt_size e1
        · rw [q]; obtain ⟨_, e2, _⟩ := h2; exact Heap.lt_size e2
      rw [upd_ne (Nat.ne_of_lt hlt)]
      exact (hf c hcm).1
  done := by
    intro X hP hw hK hc i pins s σ H E I hf st hg
    subst hP hw hK
    obtain ⟨hz, hTI, ⟨p0, q0, hTO⟩, h1, h2⟩ := st
    obtain ⟨ys, hqy, hi1, hi2, hend⟩ := hg
    obtain ⟨its2, rv2, p2, _⟩ := I.tuple hqy
    have l2 : its2.toArray.size = ys.length := by rw [List.size_toArray, ← rv2.length]
    have hbi : b ≠ i2 := fun zz => by
      obtain ⟨o1, g1, c1, _⟩ := p2
      obtain ⟨o2, g2, c2, _⟩ := h2
      rw [zz, g2] at g1
      cases g1
      rw [c2] at c1
      exact absurd (Value.type.inj c1) (by decide)
    exact wpAny_pyNext_zipD2_end D (Draws.strAscii (show X.A.in1.handled = none from I.ok.hd hc) i1 x t) (Draws.tuple (show X.A.in1.handled = none from I.ok.hd hc) i2 b hbi its2.toArray) hz hTI hTO h1 ⟨h2, p2⟩ hi1 (by rw [l2]; exact hi2) (by rw [l2]; exact hend) fun h' tk hk => ⟨rfl, I.turnedL (t' := tk) (ch := [z, TI, TO, i1, i2]) (fun c o hb q =>
      hk c o (fun q' => hb (by simp [q'])) (fun q' => hb (by simp [q'])) (fun q' => hb (by simp [q'])) (fun q' => hb (by simp [q'])) q) hf⟩
  self := fun A i s Q E st h => wpAny_pyIter_zip st.1 h
def iZipS (K : PySem.W.Frag) (ta : TA) : TI := fun σ H R => ta σ H fun vs H1 => ∃ x b ys, vs = [.str x, .ref b] ∧ x.cps.all (· < 128) = true ∧ SqT K H1 b ys ∧ R (Izs K x b) H1
theorem pi_zipS {X : Cx} {e e2 : Expr} {ta : TA} {p pos tpos : Pos} {elts : List Expr} {kk : Nat} (hg : Gl X "zip") (hm : X.mg "zip" = none) (ha : PA X [e, e2] ta)
    (hs : starEach [e, e2] X.env = (false, eval e X.env) :: starEach [e2] X.env := by rfl) (hpl : (backTo pos (starEach [e2] X.env)).any (·.1) = false := by rfl) :
    PI X (.Tuple elts kk tpos) (.Call (.Name "zip" p) [e, e2] [] pos) (iZipS X.K ta) := by
  refine ⟨fun pins s σ H R I h => ?_⟩
  refine Call_ (ld_blt I hg hm PyProof.Rows.boot_zip (PyProof.Rows.callWith_type1 (thn (ha.run pos pins s σ H _ I h) fun us s1 ⟨vs, H1, I1, r1, q1⟩ => ?_) hs hpl))
  obtain ⟨x, b, ys, ex, hasc, hqy, q⟩ := q1
  subst ex
  cases r1 with
  | cons r rr =>
    cases rr with
    | cons r' rr =>
      cases rr
      obtain ⟨t, rfl⟩ := r
      cases r'
      have fresh5 : ∀ c, c ∈ [s1.heap.objs.size + 4, s1.heap.objs.size + 2, s1.heap.objs.size + 3, s1.heap.objs.size, s1.heap.objs.size + 1] → FpOk X pins H1 c := fun c hcm => by
        have e' : c = s1.heap.objs.size + 4 ∨ c = s1.heap.objs.size + 2 ∨ c = s1.heap.objs.size + 3 ∨ c = s1.heap.objs.size ∨ c = s1.heap.objs.size + 1 := by simpa using hcm
        have hle : s1.heap.objs.size ≤ c := by
          rcases e' with z | z | z | z | z
          · rw [z]; exact Nat.le_add_right _ _
          · rw [z]; exact Nat.le_add_right _ _
          · rw [z]; exact Nat.le_add_right _ _
          · rw [z]; exact Nat.le_refl _
          · rw [z]; exact Nat.le_add_right _ _
        exact I1.fpOk hle (I1.hok.fresh hle)
      obtain ⟨its2, rv2, p2, _⟩ := I1.tuple hqy
      obtain ⟨o2, ho2, _⟩ := id p2
      have hb : b < s1.heap.objs.size := Heap.lt_size ho2
      refine call_zipS hasc (show s1.heap.IsTuple b its2.toArray from p2) fun h' hz hTI hTO h1 h2 hsz hk => wpAny_pyIter_zip hz ?_
      have I2 : Inv X pins σ H1 { s1 with heap := h' } := I1.kept (t' := s1.toks) hk
      have D : ZipSep2 (s1.heap.objs.size + 4) (s1.heap.objs.size + 2) (s1.heap.objs.size + 3) s1.heap.objs.size (s1.heap.objs.size + 1) [s1.heap.objs.size] [s1.heap.objs.size + 1, b] := by
        have hb4 : ¬ s1.heap.objs.size + 4 = b := Nat.ne_of_gt (Nat.lt_of_lt_of_le hb (Nat.le_add_right _ _))
        have hb3 : ¬ s1.heap.objs.size + 3 = b := Nat.ne_of_gt (Nat.lt_of_lt_of_le hb (Nat.le_add_right _ _))
        have hb0 : ¬ s1.heap.objs.size = b := Nat.ne_of_gt hb
        constructor <;> simp [hb4, hb3, hb0]
      exact ⟨s1.heap.objs.size + 4, [s1.heap.objs.size + 4, s1.heap.objs.size + 2, s1.heap.objs.size + 3, s1.heap.objs.size, s1.heap.objs.size + 1], _, _, H1, rfl, I2, turn_zipS x t b D, ⟨hz, hTI, ⟨_, _, hTO⟩, h1, h2⟩, fresh5, q⟩
theorem k_pi_zipS {X : Cx} {K : PySem.W.Frag} (hK : X.K = K) {e e2 : Expr} {ta : TA} {p pos tpos : Pos} {elts : List Expr} {kk : Nat} (hg : Gl X "zip") (hm : X.mg "zip" = none) (ha : PA X [e, e2] ta)
    (hs : starEach [e, e2] X.env = (false, eval e X.env) :: starEach [e2] X.env := by rfl) (hpl : (backTo pos (starEach [e2] X.env)).any (·.1) = false := by rfl) :
    PI X (.Tuple elts kk tpos) (.Call (.Name "zip" p) [e, e2] [] pos) (iZipS K ta) := by subst hK; exact pi_zipS hg hm ha hs hpl
theorem walk_zipS {K : PySem.W.Frag} {x : Str} {b : Addr} {ys : List V} (hl : x.cps.size = ys.length) : Walk (Izs K x b) ys.length (fun H => SqT K H b ys) (fun i H v H' => ∃ T c y, v = .ref T ∧ H T = none ∧ H' = upd H T (.tup [.str ⟨#[c]⟩, y]) ∧ x.cps[i]? = some c ∧ ys[i]? = some y) :=
  ⟨fun i _ hi q => ⟨ys, ys[i], x.cps[i], q, by simp [hl, hi], by simp [hi]⟩, fun _ q => ⟨ys, q, by omega, Nat.le_refl _, .inr rfl⟩, fun i H v H' _ q y => by
    obtain ⟨T, c, y, e1, e2, e3, e4, e5⟩ := y
    exact ⟨T, c, y, e1, e2, e3, e4, e5 ys q⟩⟩
/-- the pairs of a text's signs and data -/
theorem wk_zipS {K : PySem.W.Frag} {σ : L2.St} {H : Hp} {ta tb : TE} {x : Str} {ds : List PyData} (h1 : EvD ta σ H (.str x)) (h2 : EvD tb σ H (.tuple ds)) (hasc : x.cps.all (· < 128) = true) (hl : x.cps.size = ds.length) : Wk (iZipS K (tCons ta (tCons tb tNil))) σ H (pairs (signs x) ds) := fun H1 e R r =>
  (ea1 h1 (ea1 h2 ea0)) H1 e _ fun vs H2 e2 iv => by
    obtain ⟨v, w, rfl, i1, i2⟩ := iv.two
    cases i1.s
    obtain ⟨p, xs, rfl, g1, g2⟩ := i2.t
    have hlx : x.cps.size = xs.length := by rw [g2.length]; exact hl
    refine ⟨x, p, xs, rfl, hasc, SqT.of g1, r _ H2 (fun H => SqT K H p xs) _ e2 (by
      have : (pairs (signs x) ds).length = xs.length := by unfold pairs signs; rw [List.length_map, List.length_zip, List.length_map, g2.length]; simp; omega
      rw [this]; exact walk_zipS hlx) (fun H3 e3 => SqT.of (e3 _ _ g1)) fun i H3 v H4 e3 yy => ?_⟩
    obtain ⟨T, c, y, rfl, hT, rfl, hc, hy⟩ := yy
    obtain ⟨d2, hd2, im2⟩ := (g2.mono e3).get hy
    refine ⟨Ex.new hT, .tuple [.str ⟨#[c]⟩, d2], ?_, .tup upd_same (.cons (.str _) (.cons (im2.mono (Ex.new hT)) .nil))⟩
    unfold pairs
    rw [List.getElem?_map]
    have hs : (signs x)[i]? = some (.str ⟨#[c]⟩) := by
      unfold signs
      rw [List.getElem?_map]
      have : x.cps.toList[i]? = some c := by simpa using hc
      rw [this]; rfl
    rw [zip_get hs hd2]; rfl
end Pd
set_option Elab.async false
set_option linter.all false
set_option maxRecDepth 100000
set_option maxHeartbeats 2000000
/-! Kw: calls with keywords; tuples and dicts of the text. -/
namespace Pd
open PySem PySem.Spec PyProof.Rows L2 Evl
/-- a def called with n values and keywords ks, in the parameters' order, its promise kept -/
structure CalK (P : Program) (w : World) (K : PySem.W.Frag) (mg : Str → Option Value) (base : Heap) (CX : CXT) (k : Nat) (x : Str) (ps : List Str) (n : Nat) (ks : List Str) (sp : Sp) : Prop where
  ex : ∃ (f : Addr) (fd : FuncData), mg x = some (.ref f) ∧ PySem.W.keepIn K (.ref f) = true ∧ KBn K fd ps n ks (fun us ws => us ++ ws) (fun vs zs => vs ++ zs) ∧ FnOk P w K mg base CX k f fd ps sp
structure SrcK (K : PySem.W.Frag) (mg : Str → Option Value) (x : Str) (st : Stmt) (ps : List Str) (n : Nat) (ks : List Str) : Prop where
  ex : ∃ (f : Addr) (fd : FuncData), mg x = some (.ref f) ∧ Fun K x x st f fd ∧ KBn K fd ps n ks (fun us ws => us ++ ws) (fun vs zs => vs ++ zs)
section
variable {P : Program} {w : World} {K : PySem.W.Frag} {mg : Str → Option Value} {base : Heap}
theorem SrcK.cal {x : Str} {st : Stmt} {N ps ks : List Str} {k n : Nat} {sp : Sp} (F : SrcK K mg x st ps n ks) (S : FnScope N ps (defScope st)) (len : ∀ vs H Q E, sp vs H Q E → vs.length = ps.length)
    (hbody : ∀ (f : Addr) (cdv : Value) (A : Around) (outer : List Env) (s : Shared) (H : Hp) (vs : List V) (Q : VK) (E : XK), Room k (A.deeper (envOfC x (defScope st) s.heap.objs.size f cdv)) → sp vs H Q E →
      ∃ t, PSs (cxOf CX0 P w K mg base N x (defScope st) f cdv A outer s H E).nox (defBody st) t ∧ t { nx := fun _ H' => Q .non H', rt := Q } (start N vs) H) : CalK P w K mg base CX0 (k + 1) x ps n ks sp := by
  obtain ⟨f, fd, hm, hF, hb⟩ := F.ex
  exact ⟨f, fd, hm, hF.kp, hb, hF.ok S len fun cdv A outer s H vs Q E => hbody f cdv A outer s H vs Q E⟩
theorem SrcK.calX {x : Str} {st : Stmt} {N ps ks : List Str} {k n : Nat} {sp : Sp} (F : SrcK K mg x st ps n ks) (S : FnScope N ps (defScope st)) (len : ∀ vs H Q E, sp vs H Q E → vs.length = ps.length)
    (hbody : ∀ (f : Addr) (cdv : Value) (A : Around) (outer : List Env) (s : Shared) (H : Hp) (vs : List V) (Q : VK) (E : XK), Room k (A.deeper (envOfC x (defScope st) s.heap.objs.size f cdv)) → sp vs H Q E →
      ∃ t, PSs (cxOf (L2.CX P w) P w K mg base N x (defScope st) f cdv A outer s H E) (defBody st) t ∧ t { nx := fun _ H' => Q .non H', rt := Q } (start N vs) H) : CalK P w K mg base (L2.CX P w) (k + 1) x ps n ks sp := by
  obtain ⟨f, fd, hm, hF, hb⟩ := F.ex
  exact ⟨f, fd, hm, hF.kp, hb, hF.okX S len fun cdv A outer s H vs Q E => hbody f cdv A outer s H vs Q E⟩
theorem kbn_of {fd : FuncData} {ps ks : List Str} {n : Nat} (h : ∀ us ws : List Value, us.length = n → ws.length = ks.length → bindArgs fd ⟨us, ks.zip ws⟩ = pure (ps.zip (us ++ ws))) : KBn K fd ps n ks (fun us ws => us ++ ws) (fun vs zs => vs ++ zs) :=
  ⟨fun s us ws _ h1 h2 => .of_eq (h us ws h1 h2), fun r1 r2 => r1.append r2⟩
end
section
variable {X : Cx} {CX : CXT} {k n : Nat} {ps ks : List Str} {sp : Sp} {x : Str} {p pos : Pos} {e : Expr} {es : List Expr} {kws : List Keyword} {t tk : TA}
theorem pe_calK {E : XK} (C : CalK X.prog X.w X.K X.mg X.base CX k x ps n ks sp) (hr : Room k X.A) (hg : Gl X x) (hx : Passes CX X E)
    (ha : PA X (e :: es) t) (hkw : PK X kws tk) (hall : (backToKw pos (keywordEach kws X.env)).all (·.1.isSome) = true := by rfl) (hks : (backToKw pos (keywordEach kws X.env)).filterMap (·.1) = ks := by rfl)
    (hdb : (x == ("__debug__" : Str)) = false := by decide) (he : starEach (e :: es) X.env = (false, eval e X.env) :: starEach es X.env := by rfl)
    (hpl : ((backTo pos (starEach (e :: es) X.env)).any (·.1) || (backToKw pos (keywordEach kws X.env)).any (·.1.isNone)) = false := by rfl) :
    PE X (.Call (.Name x p) (e :: es) kws pos) (tCallN n ks.length sp (fun vs zs => vs ++ zs) E t tk) := by
  obtain ⟨f, fd, hm, hk, hb, F⟩ := C.ex
  exact pe_callN F hr hg hm hk hb hx ha hkw hall hks hdb he hpl
def tCallNS (n m : Nat) (sp : Sp) (E : L2.St → XK) (t tk : TA) : TE := fun σ H Q => t σ H fun vs H1 => tk σ H1 fun zs H2 => vs.length = n ∧ zs.length = m ∧ sp (vs ++ zs) H2 Q (E σ)
theorem pe_calKS {W : WX} (C : CalK X.prog X.w X.K X.mg X.base (L2.CX X.prog X.w) k x ps n ks sp) (hr : Room k X.A) (hg : Gl X x) (tkk : Takes X W)
    (ha : PA X (e :: es) t) (hkw : PK X kws tk) (hall : (backToKw pos (keywordEach kws X.env)).all (·.1.isSome) = true := by rfl) (hks : (backToKw pos (keywordEach kws X.env)).filterMap (·.1) = ks := by rfl)
    (hdb : (x == ("__debug__" : Str)) = false := by decide) (he : starEach (e :: es) X.env = (false, eval e X.env) :: starEach es X.env := by rfl)
    (hpl : ((backTo pos (starEach (e :: es) X.env)).any (·.1) || (backToKw pos (keywordEach kws X.env)).any (·.1.isNone)) = false := by rfl) :
    PE X (.Call (.Name x p) (e :: es) kws pos) (tCallNS n ks.length sp (WE W) t tk) := by
  obtain ⟨f, fd, hm, hk, hb, F⟩ := C.ex
  refine ⟨fun pins s σ H Q I h => ?_⟩
  refine wpAny_Call_Name_kw (ld_glob I hg hm ?_ hdb)
  refine PySem.W.callWith_KW (h₀ := X.base) I.ok.mod.kin hk hall (thn (ha.run pos pins s σ H _ I h) fun us s1 ⟨vs, H1, I1, r, q⟩ => ?_) hpl he
  refine thn (hkw.run pos pins s1 σ H1 _ I1 q) fun ws s2 ⟨zs, H2, I2, rz, l1, l2, q2⟩ => ⟨I2.kIn, ?_⟩
  rw [hks]
  have r2 := hb.rel r rz
  refine wpAny_call (codeAny_mono (F.run X.A X.stack s2 H2 ⟨us, ks.zip ws⟩ (us ++ ws) (vs ++ zs) Q (WE W σ) hr I2.env0 (hb.to s2 us ws I2.kIn (r.length.symm.trans l1) (rz.length.symm.trans l2)) r2 q2) fun r s' hq => ?_)
  cases r with
  | error e => exact passAt tkk σ pins H2 s2 e s' I2 hq
  | ok fl =>
    cases fl with
    | ret u => exact I2.after hq
    | next => exact False.elim hq
    | brk => exact False.elim hq
    | cont => exact False.elim hq
end
section
variable {K : PySem.W.Frag} {σ : L2.St} {H H' : Hp} {ta tb te : TE} {d : PyData} {ds es : List PyData} {t c : Addr} {P : PyData → Prop}
theorem ed_callN {R : List PyData → PyData → Prop} {E : XK} {ta tk : TA} {n m : Nat} (h : EvDs ta σ H ds) (h2 : EvDs tk σ H es) (l1 : ds.length = n) (l2 : es.length = m) (hd : R (ds ++ es) d) : EvD (tCallN n m (SpQ R) (fun vs zs => vs ++ zs) E ta tk) σ H d := fun H1 e Q q =>
  h H1 e _ fun vs H2 e2 i2 => h2 H2 (e.trans e2) _ fun zs H3 e3 i3 => ⟨by rw [i2.length]; exact l1, by rw [i3.length]; exact l2, ds ++ es, d, (i2.mono e3).append i3, hd, fun v H4 e4 i4 => q v H4 ((e2.trans e3).trans e4) i4⟩
/-- x in a tuple of the text, texts all -/
theorem ed_inK {a : Str} {ss : List Str} {p : Addr} (ha : EvD ta σ H (.str a)) (hp : ∀ H1, SqT K H1 p (ss.map V.str)) : EvD (tOp (rIn K false) ta (tC (.ref p))) σ H (.bool (decide (a ∈ ss))) := fun H1 e Q q =>
  ha H1 e _ fun x H2 e2 ix => by
    cases ix.s
    refine ⟨p, _, rfl, .inr (hp H2), rfl, flat_strs ss, ?_⟩
    have h := q _ H2 e2 (.bl (decide (a ∈ ss)))
    show Q (.bl (inV (.str a) (ss.map V.str))) H2
    rw [inV_strs]; exact h
/-- what a dict of the text holds, by its keys -/
def rNotInKd (K : PySem.W.Frag) (p : Addr) : R2 := fun x y H Q => ∃ (z : Str) (r : Option Value), x = .str z ∧ y = .ref p ∧ PySem.W.nsIn K p z = some r ∧ Q (.bl (!r.isSome)) H
theorem k_notIn_kd {X : Cx} (hK : X.K = K) {p : Addr} {es : Array DictEntry} {n : Nat} (D : KDict X.K X.w p es n) : OpR X (compareOp .NotIn) (rNotInKd K p) := by subst hK; exact op_notIn_kd D
theorem k_ix_kd {X : Cx} (hK : X.K = K) {w : World} (hw : X.w = w) : IxR X (rIxD K w) := by subst hK; subst hw; exact ix_kdict
theorem ed_notInKd {a : Str} {p : Addr} {b : Bool} (ha : EvD ta σ H (.str a)) (hp : ∃ r : Option Value, PySem.W.nsIn K p a = some r ∧ r.isSome = b) : EvD (tOp (rNotInKd K p) ta (tC (.ref p))) σ H (.bool (!b)) := fun H1 e Q q =>
  ha H1 e _ fun x H2 e2 ix => by
    cases ix.s
    obtain ⟨r, h1, h2⟩ := hp
    exact ⟨a, r, rfl, rfl, h1, by rw [h2]; exact q _ H2 e2 (.bl _)⟩
theorem ed_ixKd {w : World} {a z : Str} {p : Addr} (ha : EvD ta σ H (.str a)) (hp : KDct K w p a (.str z)) : EvD (tOp (rIxD K w) (tC (.ref p)) ta) σ H (.str z) := fun H1 e Q q =>
  ha H1 e _ fun x H2 e2 ix => by
    cases ix.s
    exact ⟨p, a, .str z, rfl, rfl, hp, q _ H2 e2 (.str z)⟩
end
end Pd
set_option Elab.async false
set_option linter.all false
set_option maxRecDepth 100000
set_option maxHeartbeats 2000000
/-! Eg: what expressions come to that draw from the tape: still data of which P holds. -/
namespace Pd
open PySem PyProof.Rows L2 Evl
def EvG (t c : Addr) (te : TE) (σ : L2.St) (H : Hp) (P : PyData → Prop) : Prop := ∀ H1, Go t c H H1 → ∀ Q : VK, (∀ v d H2, Go t c H1 H2 → still d = true → P d → Im H2 v d → Q v H2) → te σ H1 Q
def EvGs (t c : Addr) (ta : TA) (σ : L2.St) (H : Hp) (P : List PyData → Prop) : Prop := ∀ H1, Go t c H H1 → ∀ Q : List V → Hp → Prop, (∀ vs ds H2, Go t c H1 H2 → stills ds = true → P ds → Ims H2 vs ds → Q vs H2) → ta σ H1 Q
def EvGT (t c : Addr) (tt : TT) (σ : L2.St) (H : Hp) (P : Bool → Prop) : Prop := ∀ H1, Go t c H H1 → ∀ Q : Bool → Hp → Prop, (∀ b H2, Go t c H1 H2 → P b → Q b H2) → tt σ H1 Q
section
variable {K : PySem.W.Frag} {σ : L2.St} {H H' : Hp} {ta tb te tx tl to : TE} {u u2 : TT} {x y z v : V} {d d' e' : PyData} {ds es : List PyData} {t c : Addr} {P P' P2 : PyData → Prop} {PB PB' : Bool → Prop} {D : Ends} {tu tz tw : TS}
theorem stills_cons {d : PyData} {ds : List PyData} : stills (d :: ds) = (still d && stills ds) := rfl
theorem stills_mem : ∀ {ds : List PyData}, stills ds = true → ∀ d ∈ ds, still d = true
  | [], _, d, h => by cases h
  | a :: l, s, d, h => by
    have s' := Bool.and_eq_true_iff.mp (show (still a && stills l) = true from s)
    rcases List.mem_cons.mp h with rfl | h
    · exact s'.1
    · exact stills_mem s'.2 d h
theorem stills_ofm : ∀ {ds : List PyData}, (∀ d ∈ ds, still d = true) → stills ds = true
  | [], _ => rfl
  | a :: l, h => by
    show (still a && stills l) = true
    rw [h a (List.mem_cons_self ..), stills_ofm fun d hd => h d (List.mem_cons_of_mem _ hd)]
    rfl
theorem stills_app {ds es : List PyData} (h : stills ds = true) (k : stills es = true) : stills (ds ++ es) = true := stills_ofm fun d hd => by
  rcases List.mem_append.mp hd with h1 | h1
  · exact stills_mem h d h1
  · exact stills_mem k d h1
theorem EvG.mono (g : Go t c H H') (h : EvG t c te σ H P) : EvG t c te σ H' P := fun H1 g1 Q q => h H1 (g.trans g1) Q q
theorem EvG.w (h : EvG t c te σ H P) (hp : ∀ d, P d → P' d) : EvG t c te σ H P' := fun H1 g1 Q q => h H1 g1 Q fun v d H2 g2 s p iv => q v d H2 g2 s (hp d p) iv
theorem EvGT.w (h : EvGT t c u σ H PB) (hp : ∀ b, PB b → PB' b) : EvGT t c u σ H PB' := fun H1 g1 Q q => h H1 g1 Q fun b H2 g2 p => q b H2 g2 (hp b p)
theorem eg_d (h : ∀ H1, Go t c H H1 → EvD te σ H1 d) (hs : still d = true) (hp : P d) : EvG t c te σ H P := fun H1 g Q q =>
  h H1 g H1 (Ex.refl H1) Q fun v H2 e iv => q v d H2 (Go.of g.2 e) hs hp iv
theorem eg_var {i : Nat} (h : σ[i]? = some (some v)) (iv : Im H v d) (hs : still d = true) (hp : P d) : EvG t c (tVar i) σ H P := eg_d (fun H1 g => ed_var h (g.im hs iv)) hs hp
theorem eg_c (h : ∀ H1, Im H1 v d) (hs : still d = true) (hp : P d) : EvG t c (tC v) σ H P := eg_d (fun H1 g => ed_c (h H1)) hs hp
theorem eg_i (i : Int) (hp : P (.int i)) : EvG t c (tC (.int i)) σ H P := eg_c (fun _ => .int i) rfl hp
theorem eg_s (i : Str) (hp : P (.str i)) : EvG t c (tC (.str i)) σ H P := eg_c (fun _ => .str i) rfl hp
theorem eg_b (i : Bool) (hp : P (.bool i)) : EvG t c (tC (.bl i)) σ H P := eg_c (fun _ => .bl i) rfl hp
theorem eg_n (hp : P .none) : EvG t c (tC .non) σ H P := eg_c (fun _ => .non) rfl hp
theorem egs0 {PP : List PyData → Prop} (hp : PP []) : EvGs t c tNil σ H PP := fun H1 g Q q => q _ _ H1 (Go.refl g.2) rfl hp .nil
theorem egs1 {PP : List PyData → Prop} {tr : TA} (h : EvG t c te σ H P) (hr : ∀ d, P d → EvGs t c tr σ H fun ds => PP (d :: ds)) : EvGs t c (tCons te tr) σ H PP := fun H1 g Q q =>
  h H1 g _ fun v d H2 g2 s p iv => hr d p H2 (g.trans g2) _ fun vs ds H3 g3 s3 p3 ivs => q _ _ H3 (g2.trans g3) (by rw [stills_cons, s, s3]; rfl) p3 (.cons (g3.im s iv) ivs)
theorem EvGs.w {ta : TA} {PP PP' : List PyData → Prop} (h : EvGs t c ta σ H PP) (hp : ∀ d, PP d → PP' d) : EvGs t c ta σ H PP' := fun H1 g1 Q q => h H1 g1 Q fun v d H2 g2 s p iv => q v d H2 g2 s (hp d p) iv
theorem eg_tup {ta : TA} (h : EvGs t c ta σ H fun ds => ds.length ≤ 100000 ∧ P (.tuple ds)) : EvG t c (tTup ta) σ H P := fun H1 g Q q =>
  h H1 g _ fun vs ds H2 g2 s ⟨hl, p⟩ ivs => ⟨sz_of (by rw [ivs.length]; exact hl), fun a ha => q _ (.tuple ds) _ (g2.ex (Ex.new ha)) (show still (.tuple ds) = true from s) p (.tup upd_same (ivs.mono (Ex.new ha)))⟩
/-- a drawn number -/
theorem eg_draw {it : Nat} {m : Nat} {E : XK} (ht : σ[it]? = some (some (.ref t))) (hm : ∀ H1, Go t c H H1 → EvD tb σ H1 (.int (m : Nat))) (h1 : 1 ≤ m) (h2 : m ≤ 1000) (hp : ∀ r : Nat, r < m → P (.int (r : Nat))) :
    EvG t c (tCall sp_draw [] E (tCons (tVar it) (tCons tb tNil))) σ H P := fun H1 g Q q => drawn ht g.2 (hm H1 g) h1 h2 fun r hr H2 g2 => q _ _ H2 g2 rfl (hp r hr) (.int _)
/-- one of a written list of still data is picked -/
theorem eg_pick {it : Nat} {ta : TA} {E : XK} (ht : σ[it]? = some (some (.ref t))) (h : EvGs t c ta σ H fun ds => ds ≠ [] ∧ ds.length ≤ 1000 ∧ ∀ d ∈ ds, P d) :
    EvG t c (tCall sp_pick [] E (tCons (tVar it) (tCons (tLst ta) tNil))) σ H P := fun H1 g Q q => by
  refine callA (consA (var_run ht (consA (lstA ?_))))
  refine h H1 g _ fun vs ds H2 g2 s ⟨hn, hl, hp⟩ iv => ⟨sz_of (by rw [iv.length]; omega), fun p hpn => ?_⟩
  have TP := g2.2.ex (Ex.new (o := .lst vs) hpn)
  refine ⟨t, c, p, vs, rfl, TP, g2.2.notin hpn, upd_same, fun z => ?_, by rw [iv.length]; omega, fun i x hx H' g3 => ?_⟩
  · subst z
    cases iv
    exact hn rfl
  · obtain ⟨d, hd, im⟩ := (iv.mono (Ex.new (o := .lst vs) hpn)).get hx
    have hm := List.mem_of_getElem? hd
    exact q x d H' ((g2.ex (Ex.new (o := .lst vs) hpn)).trans g3) (stills_mem s d hm) (hp d hm) (g3.im (stills_mem s d hm) im)
/-- one of a list at p -/
theorem eg_pickAt {it : Nat} {p : Addr} {xs : List V} {E : XK} (ht : σ[it]? = some (some (.ref t))) (hp : ∀ H1, Go t c H H1 → Ev tb σ H1 (.ref p)) (hn : p ∉ [t, c]) (hx : H p = some (.lst xs)) (iv : Ims H xs ds) (hs : stills ds = true) (h1 : ds ≠ []) (h2 : ds.length ≤ 1000) (hP : ∀ d ∈ ds, P d) :
    EvG t c (tCall sp_pick [] E (tCons (tVar it) (tCons tb tNil))) σ H P := fun H1 g Q q =>
  picked ht g.2 (hp H1 g) hn (g.at hn hx) (fun z => by subst z; cases iv; exact h1 rfl) (by rw [iv.length]; exact h2) fun i x hx H2 g2 => by
    obtain ⟨d, hd, im⟩ := iv.get hx
    have hm := List.mem_of_getElem? hd
    exact q x d H2 g2 (stills_mem hs d hm) (hP d hm) ((g.trans g2).im (stills_mem hs d hm) im)
/-- a def that draws -/
def SpG (D : List PyData → (PyData → Prop) → Prop) : Sp := fun vs H Q _ => ∃ (t c : Addr) (ws : List V) (ds : List PyData) (P : PyData → Prop), vs = .ref t :: ws ∧ Tape t c H ∧ stills ds = true ∧ Ims H ws ds ∧ D ds P ∧ ∀ v d H', Go t c H H' → still d = true → P d → Im H' v d → Q v H'
theorem eg_call {it : Nat} {ta : TA} {E : XK} {DD : List PyData → (PyData → Prop) → Prop} (ht : σ[it]? = some (some (.ref t))) (h : EvGs t c ta σ H fun ds => DD ds P) : EvG t c (tCall (SpG DD) [] E (tCons (tVar it) ta)) σ H P := fun H1 g Q q => by
  refine callA (consA (var_run ht ?_))
  refine h H1 g _ fun vs ds H2 g2 s p ivs => ⟨t, c, vs, ds, P, by rw [List.append_nil], g2.2, s, ivs, p, fun v d H3 g3 s3 p3 iv => q v d H3 (g2.trans g3) s3 p3 iv⟩
theorem SpG.len {DD : List PyData → (PyData → Prop) → Prop} {n : Nat} (h : ∀ ds P, DD ds P → ds.length + 1 = n) : ∀ vs H Q E, SpG DD vs H Q E → vs.length = n := fun vs H Q E ⟨t, c, ws, ds, P, e, _, _, iv, hd, _⟩ => by
  rw [e, List.length_cons, iv.length]; exact h ds P hd
/-- operators -/
theorem eg_catA {PA PB : List PyData → Prop} (ha : EvG t c ta σ H fun d => ∃ ds, d = .tuple ds ∧ PA ds) (hb : EvG t c tb σ H fun d => ∃ ds, d = .tuple ds ∧ PB ds) (hp : ∀ ds es, PA ds → PB es → ds.length + es.length ≤ 100000 ∧ P (.tuple (ds ++ es))) :
    EvG t c (tOp (rCatA K) ta tb) σ H P := fun H1 g Q q =>
  ha H1 g _ fun x d H2 g2 s2 ⟨ds, ed, pa⟩ ix => hb H2 (g.trans g2) _ fun y d' H3 g3 s3 ⟨es, ed', pb⟩ iy => by
    subst ed; subst ed'
    obtain ⟨p, xs, rfl, h1, h2⟩ := (g3.im s2 ix).t
    obtain ⟨p', xs', rfl, h1', h2'⟩ := iy.t
    obtain ⟨hz, pp⟩ := hp ds es pa pb
    have st : still (.tuple (ds ++ es)) = true := stills_app s2 s3
    refine ⟨p, p', xs, xs', rfl, rfl, SqT.of h1, SqT.of h1', sz_of (by rw [h2.length, h2'.length]; exact hz), fun z => ?_, fun _ z => ?_, fun _ _ r hr => ?_⟩
    · subst z; cases h2; exact q _ _ H3 (g2.trans g3) st pp (.tup h1' h2')
    · subst z; cases h2'; rw [List.append_nil] at pp st; exact q _ _ H3 (g2.trans g3) st pp (.tup h1 h2)
    · exact q _ _ _ ((g2.trans g3).ex (Ex.new hr)) st pp (.tup upd_same ((h2.append h2').mono (Ex.new hr)))
theorem eg_I0 {gg : Int → Int → Int} {PA PB : Int → Prop} (ha : EvG t c ta σ H fun d => ∃ i, d = .int i ∧ PA i) (hb : EvG t c tb σ H fun d => ∃ i, d = .int i ∧ PB i) (hp : ∀ i j, PA i → PB j → P (.int (gg i j))) :
    EvG t c (tOp (rI0 fun i j => .int (gg i j)) ta tb) σ H P := fun H1 g Q q =>
  ha H1 g _ fun x d H2 g2 s2 ⟨i, ed, pa⟩ ix => hb H2 (g.trans g2) _ fun y d' H3 g3 s3 ⟨j, ed', pb⟩ iy => by
    subst ed; subst ed'
    exact ⟨i, j, ix.i, iy.i, q _ _ H3 (g2.trans g3) rfl (hp i j pa pb) (.int _)⟩
theorem eg_B0 {gg : Int → Int → Bool} {PA PB : Int → Prop} (ha : EvG t c ta σ H fun d => ∃ i, d = .int i ∧ PA i) (hb : EvG t c tb σ H fun d => ∃ i, d = .int i ∧ PB i) (hp : ∀ i j, PA i → PB j → P (.bool (gg i j))) :
    EvG t c (tOp (rI0 fun i j => .bl (gg i j)) ta tb) σ H P := fun H1 g Q q =>
  ha H1 g _ fun x d H2 g2 s2 ⟨i, ed, pa⟩ ix => hb H2 (g.trans g2) _ fun y d' H3 g3 s3 ⟨j, ed', pb⟩ iy => by
    subst ed; subst ed'
    exact ⟨i, j, ix.i, iy.i, q _ _ H3 (g2.trans g3) rfl (hp i j pa pb) (.bl _)⟩
theorem eg_eqI {PA PB : Int → Prop} (ha : EvG t c ta σ H fun d => ∃ i, d = .int i ∧ PA i) (hb : EvG t c tb σ H fun d => ∃ i, d = .int i ∧ PB i) (hp : ∀ i j, PA i → PB j → P (.bool (decide (i = j)))) :
    EvG t c (tOp rEq ta tb) σ H P := fun H1 g Q q =>
  ha H1 g _ fun x d H2 g2 s2 ⟨i, ed, pa⟩ ix => hb H2 (g.trans g2) _ fun y d' H3 g3 s3 ⟨j, ed', pb⟩ iy => by
    subst ed; subst ed'
    rw [ix.i, iy.i]
    refine ⟨rfl, ?_⟩
    have h := q _ _ H3 (g2.trans g3) rfl (hp i j pa pb) (.bl (decide (i = j)))
    have e2 : decide (V.int i = V.int j) = decide (i = j) := by by_cases c : i = j <;> simp [c]
    rw [e2]; exact h
theorem eg_if (h : EvGT t c u σ H PB) (h1 : PB true → EvG t c ta σ H P) (h2 : PB false → EvG t c tb σ H P) : EvG t c (tIf u ta tb) σ H P := fun H1 g Q q => h H1 g _ fun b H2 g2 p => by
  cases b with
  | true =>
    show ta σ H2 Q
    exact h1 p H2 (g.trans g2) Q fun v d H3 g3 => q v d H3 (g2.trans g3)
  | false =>
    show tb σ H2 Q
    exact h2 p H2 (g.trans g2) Q fun v d H3 g3 => q v d H3 (g2.trans g3)
/-- tests -/
theorem egt_test (h : EvG t c te σ H fun d => ∃ b, d = .bool b ∧ PB b) : EvGT t c (tTest te) σ H PB := fun H1 g Q q => h H1 g _ fun v d H2 g2 s ⟨b, ed, p⟩ iv => by
  subst ed
  exact ⟨b, iv.b, q b H2 g2 p⟩
theorem egt_B (h : EvG t c te σ H fun d => ∃ b, d = .bool b ∧ PB b) : EvGT t c (tB te) σ H PB := fun H1 g Q q => h H1 g _ fun v d H2 g2 s ⟨b, ed, p⟩ iv => by
  subst ed
  exact ⟨b, iv.b, q b H2 g2 p⟩
theorem egt_d {b : Bool} (h : ∀ H1, Go t c H H1 → EvT u σ H1 b) (hp : PB b) : EvGT t c u σ H PB := fun H1 g Q q => h H1 g H1 (Ex.refl H1) Q fun H2 e => q b H2 (Go.of g.2 e) hp
theorem egt_and {PA PC : Bool → Prop} (h1 : EvGT t c u σ H PA) (h2 : PA true → EvGT t c u2 σ H PB) (hf : PA false → PC false) (ht : ∀ b, PA true → PB b → PC b) : EvGT t c (tAnd u u2) σ H PC := fun H1 g Q q => h1 H1 g _ fun b H2 g2 p => by
  cases b with
  | false =>
    show Q false H2
    exact q false H2 g2 (hf p)
  | true =>
    show u2 σ H2 Q
    exact h2 p H2 (g.trans g2) Q fun b H3 g3 p3 => q b H3 (g2.trans g3) (ht b p p3)
theorem egt_or {PA PC : Bool → Prop} (h1 : EvGT t c u σ H PA) (h2 : PA false → EvGT t c u2 σ H PB) (ht : PA true → PC true) (hf : ∀ b, PA false → PB b → PC b) : EvGT t c (tOr u u2) σ H PC := fun H1 g Q q => h1 H1 g _ fun b H2 g2 p => by
  cases b with
  | true =>
    show Q true H2
    exact q true H2 g2 (ht p)
  | false =>
    show u2 σ H2 Q
    exact h2 p H2 (g.trans g2) Q fun b H3 g3 p3 => q b H3 (g2.trans g3) (hf b p p3)
theorem egt_not (h1 : EvGT t c u σ H PB) : EvGT t c (tNot u) σ H (fun b => PB (!b)) := fun H1 g _ q => h1 H1 g _ fun b H2 g2 p => q (!b) H2 g2 (by show PB (!(!b)); rw [Bool.not_not]; exact p)
/-- statements -/
theorem q_asgG {i : Nat} (T : Tape t c H) (h : EvG t c te σ H P) (k : ∀ v d H1, Go t c H H1 → still d = true → P d → Im H1 v d → tz D (σ.set i (some v)) H1) : tSeq (tAsg te (gName i)) tz D σ H := h H (Go.refl T) _ fun v d H1 g s p iv => k v d H1 g s p iv
theorem s_asgG {i : Nat} (T : Tape t c H) (h : EvG t c te σ H P) (k : ∀ v d H1, Go t c H H1 → still d = true → P d → Im H1 v d → D.nx (σ.set i (some v)) H1) : tAsg te (gName i) D σ H := h H (Go.refl T) _ fun v d H1 g s p iv => k v d H1 g s p iv
theorem s_retG (T : Tape t c H) (h : EvG t c te σ H P) (k : ∀ v d H1, Go t c H H1 → still d = true → P d → Im H1 v d → D.rt v H1) : tRet te D σ H := h H (Go.refl T) _ fun v d H1 g s p iv => k v d H1 g s p iv
theorem q_whenG (T : Tape t c H) (h : EvGT t c u σ H PB) (h1 : PB true → ∀ H1, Go t c H H1 → tu { D with nx := tz D } σ H1) (h2 : PB false → ∀ H1, Go t c H H1 → tz D σ H1) : tSeq (tIfS u tu tNext) tz D σ H := h H (Go.refl T) _ fun b H1 g p => by
  cases b with
  | true =>
    show tu _ σ H1
    exact h1 p H1 g
  | false =>
    show tz D σ H1
    exact h2 p H1 g
theorem s_ifG (T : Tape t c H) (h : EvGT t c u σ H PB) (h1 : PB true → ∀ H1, Go t c H H1 → tu D σ H1) (h2 : PB false → ∀ H1, Go t c H H1 → tw D σ H1) : tIfS u tu tw D σ H := h H (Go.refl T) _ fun b H1 g p => by
  cases b with
  | true =>
    show tu _ σ H1
    exact h1 p H1 g
  | false =>
    show tw D σ H1
    exact h2 p H1 g
theorem q_ifG (T : Tape t c H) (h : EvGT t c u σ H PB) (h1 : PB true → ∀ H1, Go t c H H1 → tu { D with nx := tz D } σ H1) (h2 : PB false → ∀ H1, Go t c H H1 → tw { D with nx := tz D } σ H1) : tSeq (tIfS u tu tw) tz D σ H := s_ifG (D := { D with nx := tz D }) T h h1 h2
/-- found.append(e), found a list of its own -/
theorem s_appG {l : Addr} {xs : List V} (T : Tape t c H) (hl : H l = some (.lst xs)) (hn : l ∉ [t, c]) (ha : Ev ta σ H (.ref l)) (h : EvG t c te σ H P) (hz : xs.length < 100000) (k : ∀ v d H1, Go t c H H1 → still d = true → P d → H1 l = some (.lst xs) → Im (L2.upd H1 l (.lst (xs ++ [v]))) v d → D.nx σ (L2.upd H1 l (.lst (xs ++ [v])))) :
    tDrop (tBM K "list" rAppend ta (tCons te tNil)) D σ H := ha H (Ex.refl H) _ fun H1 e1 =>
  ⟨Or.inl ⟨rfl, xs, sq_of (e1 l _ hl)⟩, h H1 (Go.of T e1) _ fun v d H2 g2 s p iv => by
    have h2 := g2.at hn (e1 l _ hl)
    exact ⟨l, xs, v, rfl, rfl, h2, sz_lt hz, k v d H2 ((Go.of T e1).trans g2) s p h2 (iv.tx (tx_lst h2) s)⟩⟩
end
end Pd
set_option Elab.async false
set_option linter.all false
set_option maxRecDepth 100000
set_option maxHeartbeats 2000000
/-! Dk: dicts with text keys; lists that change, by data. -/
namespace Pd
open PySem PyProof.Rows L2 Evl
section
variable {K : PySem.W.Frag} {σ : L2.St} {H H' : Hp} {ta tb te tx tl to : TE} {u u2 : TT} {x y z v : V} {d d' e' : PyData} {ds es : List PyData} {D : Ends} {tz : TS}
theorem keyne {a b : Str} (h : decide (a = b) = false) : ¬ (Sum.inr a : Key) = Sum.inr b := fun e => of_decide_eq_false h (Sum.inr.inj e)
theorem ev_dget {i : Nat} {p : Addr} {k : Str} {kvs : List (Key × V)} (h : σ[i]? = some (some (.ref p))) (hd : H p = some (.dK kvs)) (hv : valV kvs (.inr k) = some v) : Ev (tDGet (tVar i) (tC (.str k))) σ H v := fun H1 e Q q =>
  ⟨.ref p, h, p, v, rfl, hv ▸ DGet.k (k := .inr k) (e _ _ hd), q H1 (Ex.refl H1)⟩
theorem ed_dget {i : Nat} {p : Addr} {k : Str} {kvs : List (Key × V)} (h : σ[i]? = some (some (.ref p))) (hd : H p = some (.dK kvs)) (hv : valV kvs (.inr k) = some v) (iv : Im H v d) : EvD (tDGet (tVar i) (tC (.str k))) σ H d := EvD.of_ev (ev_dget h hd hv) iv
theorem s_dputD {i : Nat} {p : Addr} {k : Str} {kvs : List (Key × V)} (h : σ[i]? = some (some (.ref p))) (hd : H p = some (.dK kvs)) (hl : kvs.length < 100000) (hv : EvD te σ H d) (kk : ∀ v H1, Ex H H1 → Im H1 v d → H1 p = some (.dK kvs) → D.nx σ (L2.upd H1 p (.dK (putK kvs (.inr k) v)))) : sDPut (tVar i) (tC (.str k)) te D σ H :=
  hv H (Ex.refl H) _ fun v H1 e iv => ⟨.ref p, h, p, _, rfl, DPut.k (k := .inr k) (e _ _ hd) (sz_lt hl), kk v H1 e iv (e _ _ hd)⟩
theorem s_dputN {i : Nat} {p : Addr} {k : Str} {kvs : List (Key × V)} (h : σ[i]? = some (some (.ref p))) (hd : H p = some (.dK kvs)) (hl : kvs.length < 100000) (hv : EvN te σ H ds) (kk : ∀ q xs H1, H q = none → Ex H H1 → H1 q = some (.lst xs) → Ims H1 xs ds → H1 p = some (.dK kvs) → D.nx σ (L2.upd H1 p (.dK (putK kvs (.inr k) (.ref q))))) : sDPut (tVar i) (tC (.str k)) te D σ H :=
  hv H (Ex.refl H) _ fun q xs H1 n e a b => ⟨.ref p, h, p, _, rfl, DPut.k (k := .inr k) (e _ _ hd) (sz_lt hl), kk q xs H1 n e a b (e _ _ hd)⟩
theorem q_dputD {i : Nat} {p : Addr} {k : Str} {kvs : List (Key × V)} (h : σ[i]? = some (some (.ref p))) (hd : H p = some (.dK kvs)) (hl : kvs.length < 100000) (hv : EvD te σ H d) (kk : ∀ v H1, Ex H H1 → Im H1 v d → H1 p = some (.dK kvs) → tz D σ (L2.upd H1 p (.dK (putK kvs (.inr k) v)))) : tSeq (sDPut (tVar i) (tC (.str k)) te) tz D σ H := s_dputD (D := { D with nx := tz D }) h hd hl hv kk
theorem tx_upd {p : Addr} {o : HO} (h : ∀ xs, H p ≠ some (.tup xs)) : Tx H (L2.upd H p o) := fun a xs ha => by
  by_cases c : a = p
  · subst c; exact absurd ha (h xs)
  · rw [upd_ne c]; exact ha
theorem tx_dk {p : Addr} {o : HO} {kvs : List (Key × V)} (h : H p = some (.dK kvs)) : Tx H (L2.upd H p o) := tx_upd fun xs z => by rw [h] at z; cases z
theorem ExM.updD {M : List Addr} {p : Addr} {o : HO} {kvs : List (Key × V)} (h : H p = some (.dK kvs)) (hm : p ∈ M) : ExM M H (L2.upd H p o) :=
  ⟨fun a u n ha => by rw [upd_ne (fun z => n (by rw [z]; exact hm))]; exact ha, tx_dk h⟩
/-- l.append(v), l known as a value -/
theorem s_appA {l : Addr} {xs : List V} (hl : H l = some (.lst xs)) (ha : Ev ta σ H (.ref l)) (h : EvD te σ H d) (hz : xs.length < 100000) (k : ∀ v H1, Ex H H1 → H1 l = some (.lst xs) → Im H1 v d → D.nx σ (L2.upd H1 l (.lst (xs ++ [v])))) :
    tDrop (tBM K "list" rAppend ta (tCons te tNil)) D σ H := ha H (Ex.refl H) _ fun H1 e1 =>
  ⟨Or.inl ⟨rfl, xs, sq_of (e1 l _ hl)⟩, h H1 e1 _ fun v H2 e2 iv => ⟨l, xs, v, rfl, rfl, e2 l _ (e1 l _ hl), sz_lt hz, k v H2 (e1.trans e2) (e2 l _ (e1 l _ hl)) iv⟩⟩
theorem q_appA {l : Addr} {xs : List V} (hl : H l = some (.lst xs)) (ha : Ev ta σ H (.ref l)) (h : EvD te σ H d) (hz : xs.length < 100000) (k : ∀ v H1, Ex H H1 → H1 l = some (.lst xs) → Im H1 v d → tz D σ (L2.upd H1 l (.lst (xs ++ [v])))) :
    tSeq (tDrop (tBM K "list" rAppend ta (tCons te tNil))) tz D σ H := s_appA (D := { D with nx := tz D }) hl ha h hz k
/-- l.pop() -/
theorem q_popA {l : Addr} {xs : List V} (hl : H l = some (.lst (xs ++ [x]))) (ha : Ev ta σ H (.ref l)) (k : ∀ H1, Ex H H1 → tz D σ (L2.upd H1 l (.lst xs))) : tSeq (tDrop (tBM0 K "list" rPop ta)) tz D σ H := ha H (Ex.refl H) _ fun H1 e1 =>
  ⟨Or.inl ⟨rfl, _, sq_of (e1 l _ hl)⟩, l, xs ++ [x], x, rfl, rfl, e1 _ _ hl, by simp, by
    have : (xs ++ [x]).dropLast = xs := by simp
    rw [this]; exact k H1 e1⟩
theorem ixN_last (n : Nat) : ixN (n + 1) (-1) = some n := by
  unfold ixN
  rw [if_neg (by decide), if_pos (by omega)]
  congr 1
  omega
/-- l[-1] = v -/
theorem q_setLast {l : Addr} {xs : List V} (hl : H l = some (.lst (xs ++ [x]))) (h : EvD te σ H d) (ho : Ev ta σ H (.ref l)) (k : ∀ v H1, Ex H H1 → H1 l = some (.lst (xs ++ [x])) → Im H1 v d → tz D σ (L2.upd H1 l (.lst (xs ++ [v])))) :
    tSeq (tAsg te (gSub ta (tUn (rU fun i => V.int (-i)) (tC (.int 1))) rSetL)) tz D σ H := h H (Ex.refl H) _ fun v H1 e1 iv => ho H1 e1 _ fun H2 e2 => ⟨1, rfl, by
    have h2 := (e1.trans e2) _ _ hl
    refine ⟨l, xs ++ [x], -1, xs.length, rfl, rfl, h2, ?_, ?_⟩
    · rw [List.length_append]; exact ixN_last _
    · have : (xs ++ [x]).set xs.length v = xs ++ [v] := by simp
      rw [this]
      exact k v H2 (e1.trans e2) h2 (iv.mono e2)⟩
end
end Pd
set_option Elab.async false
set_option linter.all false
set_option maxRecDepth 100000
set_option maxHeartbeats 4000000
/-! tuple * int for every number from 0 to 1000 -/
namespace L2
open PySem PySem.Spec PyProof.Rows
theorem tuple_mul0 (l : Addr) (items : Array Value) (n : Nat) (dd : Option Addr) (sl : Array (Option Value)) (u : Tok) (c1 : (items.isEmpty || (0 : Int) == 1) = false) :
    Meets (Builtin.«tuple.__mul__» ⟨[.ref l, .int 0 u], []⟩) (fun _ R s => s.heap.get? l = some { cls := .type "tuple", dict := dd, data := .seq items n, slots := sl } ∧
      R (.ok (.ret (Value.ref s.heap.objs.size))) { s with heap := s.heap.push { cls := Value.type "tuple", data := Data.seq #[] }, toks := s.toks }) :=
  .of_wp fun prog w A R s h => by
    obtain ⟨hp, g, d, tk, os⟩ := s
    obtain ⟨hl, h⟩ := h
    have f1 := AutoSeq1.idx_int
    wp_walk using wpAny_loadPart' hl
    repeat (first
      | (refine wpAny_ite_false (by decide) ?_; wp_walk using wpAny_loadPart' hl)
      | (refine wpAny_ite_false (decide_eq_false (by rw [c1]; exact Bool.false_ne_true)) ?_; wp_walk using wpAny_loadPart' hl)
      | (refine wpAny_ite_true (by simp) ?_; wp_walk using wpAny_loadPart' hl))
    all_goals exact ⟨_, rfl, h⟩
theorem tuple_mul1 (l : Addr) (items : Array Value) (n : Nat) (dd : Option Addr) (sl : Array (Option Value)) (u : Tok) :
    Meets (Builtin.«tuple.__mul__» ⟨[.ref l, .int 1 u], []⟩) (fun _ R s => s.heap.get? l = some { cls := .type "tuple", dict := dd, data := .seq items n, slots := sl } ∧
      R (.ok (.ret (Value.ref l))) s) :=
  .of_wp fun prog w A R s h => by
    obtain ⟨hp, g, d, tk, os⟩ := s
    obtain ⟨hl, h⟩ := h
    have f1 := AutoSeq1.idx_int
    wp_walk using wpAny_loadPart' hl
    repeat (first
      | (refine wpAny_ite_false (by decide) ?_; wp_walk using wpAny_loadPart' hl)
      | (refine wpAny_ite_true (by simp) ?_; wp_walk using wpAny_loadPart' hl))
    all_goals exact ⟨_, rfl, h⟩
def rRepA (K : PySem.W.Frag) : R2 := fun x y H Q => ∃ l k xs, x = .ref l ∧ y = .int k ∧ SqT K H l xs ∧ xs ≠ [] ∧ 0 ≤ k ∧ k ≤ 1000 ∧ xs.length ≤ 1000 ∧ (k = 1 → Q (.ref l) H) ∧ ∀ p, H p = none → Q (.ref p) (upd H p (.tup (List.replicate k.toNat xs).flatten))
section
variable {X : Cx}
theorem op_repA : OpR X (binaryOp .Mult) (rRepA X.K) := by
  intro pins s σ H x y v u Q I rx ry h
  obtain ⟨l, k, xs, rfl, rfl, hT, hne, h0, h2, hz, q1, q⟩ := h
  by_cases h1 : 2 ≤ k
  · exact op_repT pins s σ H (.ref l) (.int k) v u Q I rx ry ⟨l, k, xs, rfl, rfl, hT, hne, h1, h2, hz, q⟩
  cases rx
  obtain ⟨t, rfl⟩ := ry
  obtain ⟨its, r, ⟨⟨cls, dd, data, sl⟩, ho, hc, n, hd⟩, hs⟩ := I.tuple hT
  simp only at hc hd
  subst hc hd
  have hle : its.length = xs.length := r.length.symm
  have hn : its ≠ [] := fun e => hne (by
    rw [e] at hle
    exact List.eq_nil_of_length_eq_zero hle.symm)
  have hi : its.toArray.isEmpty = false := by
    cases its with
    | nil => exact absurd rfl hn
    | cons a b => rfl
  rcases (by omega : k = 0 ∨ k = 1) with rfl | rfl
  · have c1 : (its.toArray.isEmpty || (0 : Int) == 1) = false := by rw [hi]; rfl
    refine wpAny_binaryOp_repeat_ref (T := "tuple") (U := "int") (by decide) ⟨_, ho, rfl⟩ (fun s' => typeIs_int s' 0 t) noFill_tuple_mul F.fills_int_mul F.slot_int_rmul repeat_tuple F.slot_int_index.lookup
      (call_meets F.slot_int_rmul (typeIs_int s 0 t) F.entry_int_rmul (F.args_int_rmul_2 _ _) (int_rmul_tuple 0 t l its.toArray n dd sl)
        ⟨ho, rfl, ⟨_, ho, rfl⟩, call_meets F.slot_tuple_mul ⟨_, ho, rfl⟩ F.entry_tuple_mul (F.args_tuple_mul_2 _ _) (tuple_mul0 l its.toArray n dd sl t c1) ⟨ho, ?_⟩⟩)
    refine ⟨.ref s.heap.objs.size, _, I.laid (t' := s.toks) (o := .tup []) (fun b ob q => Heap.get?_push_of_some _ q) (Nat.le_refl _) ?_, rfl, q _ (I.hok.fresh (Nat.le_refl _))⟩
    exact ⟨Nat.zero_le _, _, .nil, IsTup.new _ _⟩
  · refine wpAny_binaryOp_repeat_ref (T := "tuple") (U := "int") (by decide) ⟨_, ho, rfl⟩ (fun s' => typeIs_int s' 1 t) noFill_tuple_mul F.fills_int_mul F.slot_int_rmul repeat_tuple F.slot_int_index.lookup
      (call_meets F.slot_int_rmul (typeIs_int s 1 t) F.entry_int_rmul (F.args_int_rmul_2 _ _) (int_rmul_tuple 1 t l its.toArray n dd sl)
        ⟨ho, rfl, ⟨_, ho, rfl⟩, call_meets F.slot_tuple_mul ⟨_, ho, rfl⟩ F.entry_tuple_mul (F.args_tuple_mul_2 _ _) (tuple_mul1 l its.toArray n dd sl t) ⟨ho, ?_⟩⟩)
    exact ⟨.ref l, _, I, rfl, q1 rfl⟩
end
end L2
namespace Pd
open PySem PySem.Spec PyProof.Rows L2 Evl
theorem Ims.rep1 {H : Hp} {v : V} {d : PyData} (h : Im H v d) : ∀ n : Nat, Ims H (List.replicate n [v]).flatten (List.replicate n d)
  | 0 => .nil
  | n + 1 => by
    rw [List.replicate_succ, List.replicate_succ, List.flatten_cons]
    exact .cons h (Ims.rep1 h n)
theorem k_repA {X : Cx} {K : PySem.W.Frag} (hK : X.K = K) : OpR X (binaryOp .Mult) (rRepA K) := by subst hK; exact op_repA
theorem ed_repT {K : PySem.W.Frag} {σ : L2.St} {H : Hp} {ta tb : TE} {n : Nat} {d : PyData} (ha : EvD ta σ H (.tuple [d])) (hb : EvD tb σ H (.int (n : Nat))) (hn : n ≤ 1000) : EvD (tOp (rRepA K) ta tb) σ H (.tuple (List.replicate n d)) :=
  ed_op ha hb fun x y H1 e hx hy Q q => by
    obtain ⟨p, xs, rfl, h1, h2⟩ := hx.t
    cases hy.i
    obtain ⟨v, rfl, iv⟩ := h2.one
    refine ⟨p, (n : Nat), [v], rfl, rfl, SqT.of h1, List.cons_ne_nil _ _, by omega, by omega, by show 1 ≤ 1000; omega, fun z => ?_, fun r hr => ?_⟩
    · cases (by omega : n = 1)
      exact q _ H1 (Ex.refl H1) (.tup h1 h2)
    · refine q _ _ (Ex.new hr) (.tup upd_same ?_)
      rw [Int.toNat_natCast]
      exact Ims.rep1 (iv.mono (Ex.new hr)) n
end Pd
set_option Elab.async false
set_option linter.all false
set_option maxRecDepth 100000
set_option maxHeartbeats 4000000
/-! tuple * int, from 2 on, up to 100000 items -/
namespace L2
open PySem PySem.Spec PyProof.Rows
def rRepW (K : PySem.W.Frag) : R2 := fun x y H Q => ∃ l k xs, x = .ref l ∧ y = .int k ∧ SqT K H l xs ∧ xs ≠ [] ∧ 2 ≤ k ∧ k.toNat * xs.length ≤ 100000 ∧ ∀ p, H p = none → Q (.ref p) (upd H p (.tup (List.replicate k.toNat xs).flatten))
section
variable {X : Cx}
theorem op_repW : OpR X (binaryOp .Mult) (rRepW X.K) := by
  intro pins s σ H x y v u Q I rx ry h
  obtain ⟨l, k, xs, rfl, rfl, hT, hne, h1, hz, q⟩ := h
  cases rx
  obtain ⟨t, rfl⟩ := ry
  obtain ⟨its, r, ⟨⟨cls, dd, data, sl⟩, ho, hc, n, hd⟩, hs⟩ := I.tuple hT
  simp only at hc hd
  subst hc hd
  have hle : its.length = xs.length := r.length.symm
  have hn : its ≠ [] := fun e => hne (by
    rw [e] at hle
    exact List.eq_nil_of_length_eq_zero hle.symm)
  have hp : 1 ≤ xs.length := by
    cases xs with
    | nil => exact absurd rfl hne
    | cons a b => simp
  have hi : its.toArray.isEmpty = false := by
    cases its with
    | nil => exact absurd rfl hn
    | cons a b => rfl
  have hsz0 : its.toArray.size = xs.length := by rw [List.size_toArray, hle]
  have hk : k.toNat ≤ 100000 := Nat.le_trans (by have := Nat.mul_le_mul_left k.toNat hp; omega) hz
  have hkn : k = (k.toNat : Int) := by omega
  have hm : ((its.toArray.size : Nat) : Int) * k ≤ 100000 := by
    rw [hsz0, hkn, ← Int.natCast_mul, Nat.mul_comm]
    exact Int.ofNat_le.mpr hz
  have flen : (List.replicate k.toNat its).flatten.length ≤ sizeLine := by
    rw [PyProof.Rows.lm_len_rep_flat, hle, sizeLine_eq]
    omega
  have c0 : (decide (k < -(2 ^ 63)) || decide (k ≥ 2 ^ 63)) = false := by
    rw [decide_eq_false (by omega), decide_eq_false (by omega)] <;> rfl
  have c1 : (its.toArray.isEmpty || k == 1) = false := by
    rw [hi, Bool.false_or]
    exact beq_eq_false_iff_ne.mpr (by omega)
  have c2 : (decide (k ≤ 0) || its.toArray.isEmpty) = false := by
    rw [hi, Bool.or_false]
    exact decide_eq_false (by omega)
  have c4 : Builtin.Tuple.tupleTooMany (((its.toArray.size : Nat) : Int) * k) = false := by
    unfold Builtin.Tuple.tupleTooMany
    rw [sizeLine_eq]
    exact decide_eq_false (by omega)
  refine wpAny_binaryOp_repeat_ref (T := "tuple") (U := "int") (by decide) ⟨_, ho, rfl⟩ (fun s' => typeIs_int s' k t) noFill_tuple_mul F.fills_int_mul F.slot_int_rmul repeat_tuple F.slot_int_index.lookup
    (call_meets F.slot_int_rmul (typeIs_int s k t) F.entry_int_rmul (F.args_int_rmul_2 _ _) (int_rmul_tuple k t l its.toArray n dd sl)
      ⟨ho, rfl, ⟨_, ho, rfl⟩, call_meets F.slot_tuple_mul ⟨_, ho, rfl⟩ F.entry_tuple_mul (F.args_tuple_mul_2 _ _) (tuple_mulW l its.toArray n dd sl k t c0 c1 c2 (by omega) c4 (by rw [size_rep, List.size_toArray]; exact flen)) ⟨ho, ?_⟩⟩)
  rw [size_rep]
  refine ⟨.ref s.heap.objs.size, _, I.laid (t' := s.toks) (o := .tup (List.replicate k.toNat xs).flatten) (fun b ob q => Heap.get?_push_of_some _ q) (Nat.le_refl _) ?_, rfl, q _ (I.hok.fresh (Nat.le_refl _))⟩
  exact ⟨by rw [PyProof.Rows.lm_len_rep_flat, sizeLine_eq]; omega, _, r.rep k.toNat, IsTup.new _ _⟩
end
end L2
namespace Pd
open PySem PySem.Spec PyProof.Rows L2 Evl
theorem k_repW {X : Cx} {K : PySem.W.Frag} (hK : X.K = K) : OpR X (binaryOp .Mult) (rRepW K) := by subst hK; exact op_repW
theorem ed_repW {K : PySem.W.Frag} {σ : L2.St} {H : Hp} {ta tb : TE} {n : Nat} {d : PyData} (ha : EvD ta σ H (.tuple [d])) (hb : EvD tb σ H (.int (n : Nat))) (h2 : 2 ≤ n) (hn : n ≤ 100000) : EvD (tOp (rRepW K) ta tb) σ H (.tuple (List.replicate n d)) :=
  ed_op ha hb fun x y H1 e hx hy Q q => by
    obtain ⟨p, xs, rfl, h1, h2'⟩ := hx.t
    cases hy.i
    obtain ⟨v, rfl, iv⟩ := h2'.one
    refine ⟨p, (n : Nat), [v], rfl, rfl, SqT.of h1, List.cons_ne_nil _ _, by omega, by rw [Int.toNat_natCast]; show n * 1 ≤ _; omega, fun r hr => ?_⟩
    refine q _ _ (Ex.new hr) (.tup upd_same ?_)
    rw [Int.toNat_natCast]
    exact Ims.rep1 (iv.mono (Ex.new hr)) n
/-- xs.pop() -/
theorem k_pop0 {X : Cx} {K : PySem.W.Frag} (hK : X.K = K) {o : Expr} {to : TE} {apos cpos : Pos} (ho : PE X o to)
    (hbase : attributeBase o "pop" X.env (eval o X.env) = eval o X.env := by rfl) (hline : (apos.endLine == cpos.line) = true := by rfl) : PE X (.Call (.Attribute o "pop" apos) [] [] cpos) (tBM0 K "list" rPop to) := by subst hK; exact pe_bm0 PySem.F.plainAttrs_list PySem.F.slot_list_pop PySem.F.type_list_pop mt_pop ho hbase hline
end Pd
set_option Elab.async false
set_option linter.all false
set_option maxRecDepth 100000
set_option maxHeartbeats 2000000
/-! Wa: the plain layer. Immutable values are data, mutable ones are references into a logical heap; what a reading of HandS asks is said again over these (RE, RS ..). -/
namespace Wl
open PySem PySem.Spec PyProof.Rows L2 Evl Pd
theorem map_toNat_inj : ∀ {a b : List Char}, a.map Char.toNat = b.map Char.toNat → a = b
  | [], [], _ => rfl
  | [], _ :: _, h => by cases h
  | _ :: _, [], h => by cases h
  | x :: a, y :: b, h => by
    rw [List.map_cons, List.map_cons] at h
    obtain ⟨h1, h2⟩ := List.cons.inj h
    have hx : x = y := by
      apply Char.ext
      exact UInt32.toNat_inj.mp h1
    rw [hx, map_toNat_inj h2]
/-- texts that are written -/
@[simp] theorem ofString_inj {a b : String} : (Str.ofString a = Str.ofString b) = (a = b) := by
  apply propext
  refine ⟨fun h => ?_, fun h => by rw [h]⟩
  rw [Str.ofString_eq_byList] at h
  unfold Str.ofStringByList at h
  have h2 := congrArg (fun s : Str => s.cps.toList) h
  simp only [List.toList_toArray] at h2
  exact String.toList_inj.mp (map_toNat_inj h2)
@[simp] theorem ofString_beq {a b : String} : (Str.ofString a == Str.ofString b) = decide (a = b) := by
  by_cases h : a = b
  · subst h; simp
  · rw [decide_eq_false h]
    exact beq_eq_false_iff_ne.mpr (by rw [ne_eq, ofString_inj]; exact h)
/-- a reference -/
abbrev rf (a : Addr) : PyData := .dict [(.int ((a : Nat) : Int), .none)]
@[simp] theorem addr_inj {a b : Addr} : ((((a : Nat) : Int) = ((b : Nat) : Int)) = (a = b)) := by
  apply propext
  exact ⟨fun h => Int.ofNat.inj h, fun h => by rw [h]⟩
def asR : PyData → Option Addr
  | .dict [(.int i, .none)] => some i.toNat
  | _ => none
@[simp] theorem asR_rf (a : Addr) : asR (rf a) = some a := by simp [asR]
theorem asR_eq {d : PyData} {a : Addr} (h : asR d = some a) : ∃ i : Int, d = .dict [(.int i, .none)] ∧ i.toNat = a := by
  unfold asR at h
  split at h
  · exact ⟨_, rfl, Option.some.inj h⟩
  · cases h
/-- what stands at a reference -/
inductive LO where
  | lst (ds : List PyData)
  | dK (kvs : List (Key × PyData))
  | dT (kvs : List (List Key × PyData))
  | ins (C : Addr) (fs : List (Str × PyData))
  | set (w : World) (a : Addr) (ks : List Int)
  /-- a dict while a loop walks it -/
  | lk (od : Obj) (xs : List (Key × V)) (kvs : List (Key × PyData))
  | lkT (od : Obj) (xs : List (List Key × V)) (kvs : List (List Key × PyData))
abbrev Lh := Addr → Option LO
def up (h : Lh) (a : Addr) (o : LO) : Lh := fun b => if b = a then some o else h b
@[simp] theorem up_same {h : Lh} {a : Addr} {o : LO} : up h a o a = some o := by unfold up; rw [if_pos rfl]
@[simp] theorem up_up {h : Lh} {a : Addr} {o u : LO} : up (up h a o) a u = up h a u := by
  funext b; unfold up; split <;> rfl
theorem up_ne {h : Lh} {a b : Addr} {o : LO} (n : b ≠ a) : up h a o b = h b := by unfold up; rw [if_neg n]
/-- a tuple, a list of the text -/
def KT (K : PySem.W.Frag) (a : Addr) (xs : List V) : Prop := ∃ (o : Obj) (its : Array Value) (n : Nat), K.lookup a = some o ∧ o.cls = .type "tuple" ∧ o.data = .seq its n ∧ its.size ≤ sizeLine ∧ Vals xs its.toList
def Li0 : Unit := ()
section
variable (K : PySem.W.Frag)
def Tu (N : Addr → Prop) (H : Hp) (h : Lh) (a : Addr) (xs : List V) : Prop := (Rd H a (.tup xs) ∧ h a = none ∧ ¬ N a) ∨ KT K a xs
def Li (N : Addr → Prop) (H : Hp) (h : Lh) (a : Addr) (xs : List V) : Prop := H a = some (.lst xs) ∧ h a = none ∧ ¬ N a
/-- the script: a list that is read -/
def Sc (N : Addr → Prop) (H : Hp) (h : Lh) (a : Addr) (xs : List V) : Prop := (Rd H a (.lst xs) ∧ h a = none ∧ ¬ N a) ∨ ∃ (o : Obj) (its : Array Value) (n : Nat), K.lookup a = some o ∧ o.cls = .type "list" ∧ o.dict = none ∧ o.data = .seq its n ∧ its.size ≤ sizeLine ∧ Vals xs its.toList
mutual
/-- v is d -/
inductive Rl (N : Addr → Prop) (H : Hp) (h : Lh) : V → PyData → Prop
  | non : Rl N H h .non .none
  | bl (b : Bool) : Rl N H h (.bl b) (.bool b)
  | int (i : Int) : Rl N H h (.int i) (.int i)
  | str (x : Str) : Rl N H h (.str x) (.str x)
  | lst {a : Addr} {xs : List V} {ds : List PyData} : Li N H h a xs → Rls N H h xs ds → Rl N H h (.ref a) (.list ds)
  | tup {a : Addr} {xs : List V} {ds : List PyData} : Tu K N H h a xs → Rls N H h xs ds → Rl N H h (.ref a) (.tuple ds)
  | rf (a : Addr) : Rl N H h (.ref a) (.dict [(.int ((a : Nat) : Int), .none)])
  | scr {a : Addr} (ns : List Int) : Sc K N H h a (ns.map V.int) → Rl N H h (.ref a) (.dict [(.none, .tuple (ns.map PyData.int))])
  | btp {a : Addr} (ns : List Int) (o : Obj) : H a = some (.frz o (.tup (ns.map V.int))) → o.dict = none → h a = none → ¬ N a → Rl N H h (.ref a) (.dict [(.bool true, .tuple (ns.map PyData.int))])
inductive Rls (N : Addr → Prop) (H : Hp) (h : Lh) : List V → List PyData → Prop
  | nil : Rls N H h [] []
  | cons {v : V} {vs : List V} {d : PyData} {ds : List PyData} : Rl N H h v d → Rls N H h vs ds → Rls N H h (v :: vs) (d :: ds)
end
end
/-- from one state to a later one: what is no mutable object stays -/
structure Tr (H : Hp) (h : Lh) (H' : Hp) (h' : Lh) : Prop where
  k : ∀ a o, H a = some o → h a = none → H' a = some o ∧ h' a = none
  n : ∀ a, H' a = none → H a = none
theorem Tr.refl (H : Hp) (h : Lh) : Tr H h H h := ⟨fun _ _ a b => ⟨a, b⟩, fun _ a => a⟩
theorem Tr.rd {H H' : Hp} {h h' : Lh} {a : Addr} {u : HO} (t : Tr H h H' h') (r : Rd H a u) (e : h a = none) : Rd H' a u := by
  rcases r with r | ⟨o, r⟩
  · exact .inl (t.k _ _ r e).1
  · exact .inr ⟨o, (t.k _ _ r e).1⟩
theorem Rd.some {H : Hp} {a : Addr} {u : HO} (r : Rd H a u) : ∃ o, H a = some o := by
  rcases r with r | ⟨o, r⟩
  · exact ⟨_, r⟩
  · exact ⟨_, r⟩
theorem Tr.trans {H H1 H2 : Hp} {h h1 h2 : Lh} (x : Tr H h H1 h1) (y : Tr H1 h1 H2 h2) : Tr H h H2 h2 := ⟨fun a o p q => y.k a o (x.k a o p q).1 (x.k a o p q).2, fun a e => x.n a (y.n a e)⟩
theorem upd_none {H : Hp} {p a : Addr} {o : HO} (e : L2.upd H p o a = none) : H a = none := by
  unfold L2.upd at e
  split at e
  · cases e
  · exact e
theorem Tr.new {H : Hp} {h : Lh} {p : Addr} {o : HO} (hp : H p = none) : Tr H h (L2.upd H p o) h := ⟨fun a u e q => ⟨by rw [upd_ne (fun z => by rw [z, hp] at e; cases e)]; exact e, q⟩, fun a e => upd_none e⟩
theorem Tr.ex {H H' : Hp} {h : Lh} (e : Ex H H') : Tr H h H' h := ⟨fun a o p q => ⟨e a o p, q⟩, fun a q => by
  cases z : H a with
  | none => rfl
  | some o => rw [e a o z] at q; cases q⟩
section
variable {K : PySem.W.Frag} {N N' : Addr → Prop} {H H' H1 : Hp} {h h' h1 : Lh}
mutual
theorem Rl.tr (t : Tr H h H' h') : ∀ {d : PyData} {v : V}, Rl K N H h v d → Rl K N H' h' v d
  | .none, _, r => by cases r; exact .non
  | .bool _, _, r => by cases r; exact .bl _
  | .int _, _, r => by cases r; exact .int _
  | .str _, _, r => by cases r; exact .str _
  | .list ds, _, r => by
    cases r with
    | lst h1 h2 =>
      obtain ⟨a, b, c⟩ := h1
      exact .lst ⟨(t.k _ _ a b).1, (t.k _ _ a b).2, c⟩ (Rls.tr t h2)
  | .tuple ds, _, r => by
    cases r with
    | tup h1 h2 =>
      refine .tup ?_ (Rls.tr t h2)
      rcases h1 with ⟨a, b, c⟩ | k
      · obtain ⟨o, e⟩ := Rd.some a
        exact .inl ⟨t.rd a b, (t.k _ _ e b).2, c⟩
      · exact .inr k
  | .dict _, _, r => by
    cases r with
    | rf => exact .rf _
    | scr ns c =>
      refine .scr ns ?_
      rcases c with ⟨a, b, c⟩ | k
      · obtain ⟨o, e⟩ := Rd.some a
        exact .inl ⟨t.rd a b, (t.k _ _ e b).2, c⟩
      · exact .inr k
    | btp ns o a d b c => exact .btp ns o (t.k _ _ a b).1 d (t.k _ _ a b).2 c
theorem Rls.tr (t : Tr H h H' h') : ∀ {ds : List PyData} {vs : List V}, Rls K N H h vs ds → Rls K N H' h' vs ds
  | [], _, r => by cases r; exact .nil
  | d :: ds, _, r => by cases r with | cons a b => exact .cons (Rl.tr t a) (Rls.tr t b)
end
mutual
/-- fewer things are hidden, or more that are new -/
theorem Rl.hid (t : ∀ a, N' a → N a ∨ H a = none) : ∀ {d : PyData} {v : V}, Rl K N H h v d → Rl K N' H h v d
  | .none, _, r => by cases r; exact .non
  | .bool _, _, r => by cases r; exact .bl _
  | .int _, _, r => by cases r; exact .int _
  | .str _, _, r => by cases r; exact .str _
  | .list ds, _, r => by
    cases r with
    | lst h1 h2 =>
      obtain ⟨a, b, c⟩ := h1
      exact .lst ⟨a, b, fun z => (t _ z).elim c fun e => by rw [e] at a; cases a⟩ (Rls.hid t h2)
  | .tuple ds, _, r => by
    cases r with
    | tup h1 h2 =>
      refine .tup ?_ (Rls.hid t h2)
      rcases h1 with ⟨a, b, c⟩ | k
      · obtain ⟨o, e⟩ := Rd.some a
        exact .inl ⟨a, b, fun z => (t _ z).elim c fun q => by rw [q] at e; cases e⟩
      · exact .inr k
  | .dict _, _, r => by
    cases r with
    | rf => exact .rf _
    | scr ns c =>
      refine .scr ns ?_
      rcases c with ⟨a, b, c⟩ | k
      · obtain ⟨o, e⟩ := Rd.some a
        exact .inl ⟨a, b, fun z => (t _ z).elim c fun q => by rw [q] at e; cases e⟩
      · exact .inr k
    | btp ns o a d b c => exact .btp ns o a d b fun z => (t _ z).elim c fun q => by rw [q] at a; cases a
theorem Rls.hid (t : ∀ a, N' a → N a ∨ H a = none) : ∀ {ds : List PyData} {vs : List V}, Rls K N H h vs ds → Rls K N' H h vs ds
  | [], _, r => by cases r; exact .nil
  | d :: ds, _, r => by cases r with | cons a b => exact .cons (Rl.hid t a) (Rls.hid t b)
end
mutual
/-- a step over what is not hidden: at a hidden place anything may be written -/
theorem Rl.trN (t : ∀ a o, H a = some o → h a = none → ¬ N a → H' a = some o ∧ h' a = none ∧ ¬ N' a) : ∀ {d : PyData} {v : V}, Rl K N H h v d → Rl K N' H' h' v d
  | .none, _, r => by cases r; exact .non
  | .bool _, _, r => by cases r; exact .bl _
  | .int _, _, r => by cases r; exact .int _
  | .str _, _, r => by cases r; exact .str _
  | .list ds, _, r => by
    cases r with
    | lst h1 h2 =>
      obtain ⟨a, b, c⟩ := h1
      exact .lst (t _ _ a b c) (Rls.trN t h2)
  | .tuple ds, _, r => by
    cases r with
    | tup h1 h2 =>
      refine .tup ?_ (Rls.trN t h2)
      rcases h1 with ⟨a, b, c⟩ | k
      · refine .inl ?_
        rcases a with a | ⟨o, a⟩
        · obtain ⟨q1, q2, q3⟩ := t _ _ a b c
          exact ⟨.inl q1, q2, q3⟩
        · obtain ⟨q1, q2, q3⟩ := t _ _ a b c
          exact ⟨.inr ⟨o, q1⟩, q2, q3⟩
      · exact .inr k
  | .dict _, _, r => by
    cases r with
    | rf => exact .rf _
    | scr ns c =>
      refine .scr ns ?_
      rcases c with ⟨a, b, c⟩ | k
      · refine .inl ?_
        rcases a with a | ⟨o, a⟩
        · obtain ⟨q1, q2, q3⟩ := t _ _ a b c
          exact ⟨.inl q1, q2, q3⟩
        · obtain ⟨q1, q2, q3⟩ := t _ _ a b c
          exact ⟨.inr ⟨o, q1⟩, q2, q3⟩
      · exact .inr k
    | btp ns o a d b c =>
      obtain ⟨q1, q2, q3⟩ := t _ _ a b c
      exact .btp ns o q1 d q2 q3
theorem Rls.trN (t : ∀ a o, H a = some o → h a = none → ¬ N a → H' a = some o ∧ h' a = none ∧ ¬ N' a) : ∀ {ds : List PyData} {vs : List V}, Rls K N H h vs ds → Rls K N' H' h' vs ds
  | [], _, r => by cases r; exact .nil
  | d :: ds, _, r => by cases r with | cons a b => exact .cons (Rl.trN t a) (Rls.trN t b)
end
theorem Rl.s {v : V} {x : Str} (r : Rl K N H h v (.str x)) : v = .str x := by cases r; rfl
theorem Rl.i {v : V} {x : Int} (r : Rl K N H h v (.int x)) : v = .int x := by cases r; rfl
theorem Rl.b {v : V} {x : Bool} (r : Rl K N H h v (.bool x)) : v = .bl x := by cases r; rfl
theorem Rl.n {v : V} (r : Rl K N H h v .none) : v = .non := by cases r; rfl
theorem Rl.r {v : V} {d : PyData} {a : Addr} (r : Rl K N H h v d) (e : asR d = some a) : v = .ref a := by
  obtain ⟨i, rfl, rfl⟩ := asR_eq e
  cases r
  simp
theorem Tu.sq {a : Addr} {xs : List V} (t : Tu K N H h a xs) : SqT K H a xs := by
  rcases t with t | t
  · exact .inl t.1
  · exact .inr t
theorem Li.sq {a : Addr} {xs : List V} (t : Li N H h a xs) : SqL K H a xs := SqL.of t.1
theorem Rl.t {v : V} {ds : List PyData} (r : Rl K N H h v (.tuple ds)) : ∃ a xs, v = .ref a ∧ Tu K N H h a xs ∧ Rls K N H h xs ds := by cases r with | tup a b => exact ⟨_, _, rfl, a, b⟩
theorem Rl.l {v : V} {ds : List PyData} (r : Rl K N H h v (.list ds)) : ∃ a xs, v = .ref a ∧ Li N H h a xs ∧ Rls K N H h xs ds := by cases r with | lst a b => exact ⟨_, _, rfl, a, b⟩
theorem Rls.length : ∀ {ds : List PyData} {vs : List V}, Rls K N H h vs ds → vs.length = ds.length
  | [], _, r => by cases r; rfl
  | d :: ds, _, r => by cases r with | cons a b => simp [Rls.length b]
theorem Rls.get : ∀ {ds : List PyData} {vs : List V} {i : Nat} {v : V}, Rls K N H h vs ds → vs[i]? = some v → ∃ d, ds[i]? = some d ∧ Rl K N H h v d
  | [], _, _, _, r, e => by cases r; simp at e
  | d :: ds, _, 0, v, r, e => by cases r with | cons a b => simp at e; subst e; exact ⟨d, rfl, a⟩
  | d :: ds, _, i + 1, v, r, e => by cases r with | cons a b => exact Rls.get (i := i) b (by simpa using e)
theorem Rls.getD : ∀ {ds : List PyData} {vs : List V} {i : Nat} {d : PyData}, Rls K N H h vs ds → ds[i]? = some d → ∃ v, vs[i]? = some v ∧ Rl K N H h v d
  | [], _, _, _, r, e => by simp at e
  | d :: ds, _, 0, v, r, e => by cases r with | cons a b => simp at e; subst e; exact ⟨_, rfl, a⟩
  | d :: ds, _, i + 1, v, r, e => by cases r with | cons a b => exact Rls.getD (i := i) b (by simpa using e)
theorem Rls.append : ∀ {ds es : List PyData} {vs ws : List V}, Rls K N H h vs ds → Rls K N H h ws es → Rls K N H h (vs ++ ws) (ds ++ es)
  | [], _, _, _, r, k => by cases r; exact k
  | d :: ds, _, _, _, r, k => by cases r with | cons a b => exact .cons a (Rls.append b k)
theorem Rls.take : ∀ {ds : List PyData} {vs : List V} (n : Nat), Rls K N H h vs ds → Rls K N H h (vs.take n) (ds.take n)
  | _, _, 0, _ => .nil
  | [], _, n + 1, r => by cases r; exact .nil
  | d :: ds, _, n + 1, r => by cases r with | cons a b => exact .cons a (Rls.take n b)
theorem Rls.drop : ∀ {ds : List PyData} {vs : List V} (n : Nat), Rls K N H h vs ds → Rls K N H h (vs.drop n) (ds.drop n)
  | _, _, 0, r => r
  | [], _, n + 1, r => by cases r; exact .nil
  | d :: ds, _, n + 1, r => by cases r with | cons a b => exact Rls.drop n b
theorem Rls.set {v : V} {d : PyData} (r : Rl K N H h v d) : ∀ {ds : List PyData} {vs : List V} (i : Nat), Rls K N H h vs ds → Rls K N H h (vs.set i v) (ds.set i d)
  | [], _, _, k => by cases k; exact .nil
  | d :: ds, _, 0, k => by cases k with | cons a b => exact .cons r b
  | d :: ds, _, i + 1, k => by cases k with | cons a b => exact .cons a (Rls.set r i b)
theorem Rls.one {vs : List V} {d : PyData} (r : Rls K N H h vs [d]) : ∃ v, vs = [v] ∧ Rl K N H h v d := by
  cases r with | cons a b => cases b; exact ⟨_, rfl, a⟩
theorem Rls.two {vs : List V} {d e : PyData} (r : Rls K N H h vs [d, e]) : ∃ v w, vs = [v, w] ∧ Rl K N H h v d ∧ Rl K N H h w e := by
  cases r with | cons a b => obtain ⟨w, rfl, c⟩ := b.one; exact ⟨_, _, rfl, a, c⟩
theorem Rls.strs : ∀ {ss : List Str} {vs : List V}, Rls K N H h vs (ss.map PyData.str) → vs = ss.map V.str
  | [], _, r => by cases r; rfl
  | s :: ss, _, r => by cases r with | cons a b => rw [a.s, Rls.strs b]; rfl
theorem Rls.bls : ∀ {ss : List Bool} {vs : List V}, Rls K N H h vs (ss.map PyData.bool) → vs = ss.map V.bl
  | [], _, r => by cases r; rfl
  | s :: ss, _, r => by cases r with | cons a b => rw [a.b, Rls.bls b]; rfl
mutual
/-- no reference within -/
def clean : PyData → Bool
  | .dict _ => false
  | .list ds => cleans ds
  | .tuple ds => cleans ds
  | _ => true
def cleans : List PyData → Bool
  | [] => true
  | d :: ds => clean d && cleans ds
end
mutual
theorem Rl.dp : ∀ {d : PyData} {v : V}, clean d = true → Rl K N H h v d → Dp K H v d
  | .none, _, _, r => by cases r; exact .non
  | .bool _, _, _, r => by cases r; exact .bl _
  | .int _, _, _, r => by cases r; exact .int _
  | .str _, _, _, r => by cases r; exact .str _
  | .list ds, _, s, r => by cases r with | lst a b => exact .lst a.sq (Rls.dp s b)
  | .tuple ds, _, s, r => by cases r with | tup a b => exact .tup a.sq (Rls.dp s b)
  | .dict _, _, s, r => by cases s
theorem Rls.dp : ∀ {ds : List PyData} {vs : List V}, cleans ds = true → Rls K N H h vs ds → DpAll K H vs ds
  | [], _, _, r => by cases r; exact .nil
  | d :: ds, _, s, r => by
    cases r with
    | cons a b =>
      have s' : clean d = true ∧ cleans ds = true := Bool.and_eq_true_iff.mp s
      exact .cons (Rl.dp s'.1 a) (Rls.dp s'.2 b)
end
end
/-! ### the heap -/
section
variable (K : PySem.W.Frag)
inductive Ok1 (N : Addr → Prop) (H : Hp) (h : Lh) : HO → LO → Prop
  | lst {xs : List V} {ds : List PyData} : Rls K N H h xs ds → Ok1 N H h (.lst xs) (.lst ds)
  | dK {xs : List (Key × V)} {ds : List (Key × PyData)} : Paired (fun (p : Key × V) (q : Key × PyData) => p.1 = q.1 ∧ Rl K N H h p.2 q.2) xs ds → Ok1 N H h (.dK xs) (.dK ds)
  | dT {xs : List (List Key × V)} {ds : List (List Key × PyData)} : Paired (fun (p : List Key × V) (q : List Key × PyData) => p.1 = q.1 ∧ Rl K N H h p.2 q.2) xs ds → Ok1 N H h (.dT xs) (.dT ds)
  | ins {C dx : Addr} {xs : List (Str × V)} {ds : List (Str × PyData)} : Paired (fun (p : Str × V) (q : Str × PyData) => p.1 = q.1 ∧ Rl K N H h p.2 q.2) xs ds → Ok1 N H h (.ins C dx xs) (.ins C ds)
  | lk {od : Obj} {xs : List (Key × V)} {ds : List (Key × PyData)} : Paired (fun (p : Key × V) (q : Key × PyData) => p.1 = q.1 ∧ Rl K N H h p.2 q.2) xs ds → Ok1 N H h (.frz od (.dK xs)) (.lk od xs ds)
  | lkT {od : Obj} {xs : List (List Key × V)} {ds : List (List Key × PyData)} : Paired (fun (p : List Key × V) (q : List Key × PyData) => p.1 = q.1 ∧ Rl K N H h p.2 q.2) xs ds → Ok1 N H h (.frz od (.dT xs)) (.lkT od xs ds)
  | set (w : World) (a : Addr) (ks : List Int) : Ok1 N H h (SetO w a (fun j => decide (j ∈ ks)) ks.length) (.set w a ks)
structure Sim (N : Addr → Prop) (H : Hp) (h : Lh) : Prop where
  at_ : ∀ a o, h a = some o → ¬ N a ∧ ∃ u, H a = some u ∧ Ok1 K N H h u o
  hid : ∀ a, N a → ∃ u, H a = some u ∧ ∀ xs, u ≠ .tup xs
end
theorem Paired.mono2 {α β : Type} {r s : α → β → Prop} (f : ∀ a b, r a b → s a b) : ∀ {xs : List α} {ys : List β}, Paired r xs ys → Paired s xs ys
  | _, _, .nil => .nil
  | _, _, .cons a b => .cons (f _ _ a) (Paired.mono2 f b)
section
variable {K : PySem.W.Frag} {N N' : Addr → Prop} {H H' H1 : Hp} {h h' h1 : Lh} {u : HO} {o : LO}
theorem Ok1.mono (f : ∀ v d, Rl K N H h v d → Rl K N' H' h' v d) (g : ∀ v d, Rls K N H h v d → Rls K N' H' h' v d) (k : Ok1 K N H h u o) : Ok1 K N' H' h' u o := by
  cases k with
  | lst a => exact .lst (g _ _ a)
  | dK a => exact .dK (Paired.mono2 (fun p q z => ⟨z.1, f _ _ z.2⟩) a)
  | dT a => exact .dT (Paired.mono2 (fun p q z => ⟨z.1, f _ _ z.2⟩) a)
  | ins a => exact .ins (Paired.mono2 (fun p q z => ⟨z.1, f _ _ z.2⟩) a)
  | set w a ks => exact .set w a ks
  | lk a => exact .lk (Paired.mono2 (fun p q z => ⟨z.1, f _ _ z.2⟩) a)
  | lkT a => exact .lkT (Paired.mono2 (fun p q z => ⟨z.1, f _ _ z.2⟩) a)
theorem Ok1.tr (t : Tr H h H' h') (k : Ok1 K N H h u o) : Ok1 K N H' h' u o := k.mono (fun _ _ => Rl.tr t) (fun _ _ => Rls.tr t)
theorem Sim.nn {a : Addr} (S : Sim K N H h) (e : H a = none) : ¬ N a := fun z => by
  obtain ⟨u, q, _⟩ := S.hid a z
  rw [e] at q; cases q
/-- a tuple is not hidden -/
theorem Sim.nt {a : Addr} {xs : List V} (S : Sim K N H h) (e : H a = some (.tup xs)) : ¬ N a := fun z => by
  obtain ⟨u, q, n⟩ := S.hid a z
  rw [e] at q; cases q; exact n _ rfl
theorem Sim.hn {a : Addr} (S : Sim K N H h) (e : H a = none) : h a = none := by
  cases q : h a with
  | none => rfl
  | some o =>
    obtain ⟨_, u, z, _⟩ := S.at_ a o q
    rw [e] at z; cases z
/-- a real object more -/
theorem Sim.ex (S : Sim K N H h) (e : Ex H H') : Sim K N H' h :=
  ⟨fun a o q => by
    obtain ⟨n, u, z, k⟩ := S.at_ a o q
    exact ⟨n, u, e a u z, k.tr (Tr.ex e)⟩, fun a z => by
    obtain ⟨u, q, n⟩ := S.hid a z
    exact ⟨u, e a u q, n⟩⟩
theorem Sim.new {p : Addr} {v : HO} (S : Sim K N H h) (hp : H p = none) : Sim K N (L2.upd H p v) h := S.ex (Ex.new hp)
/-- a mutable object more, or another content of one -/
theorem Tr.put {p : Addr} {v : HO} {l : LO} (hp : H p = none ∨ h p ≠ none) : Tr H h (L2.upd H p v) (up h p l) := ⟨fun a u e q => by
  have n : a ≠ p := fun z => by
    subst z
    rcases hp with hp | hp
    · rw [hp] at e; cases e
    · exact hp q
  exact ⟨by rw [upd_ne n]; exact e, by rw [up_ne n]; exact q⟩, fun a e => upd_none e⟩
theorem Sim.put {p : Addr} {v : HO} {l : LO} (S : Sim K N H h) (hp : H p = none ∨ h p ≠ none) (k : Ok1 K N H h v l) : Sim K N (L2.upd H p v) (up h p l) := by
  have t : Tr H h (L2.upd H p v) (up h p l) := Tr.put hp
  refine ⟨fun a o q => ?_, fun a z => ?_⟩
  · by_cases c : a = p
    · subst c
      rw [up_same] at q
      cases q
      refine ⟨?_, v, upd_same, k.tr t⟩
      rcases hp with hp | hp
      · exact S.nn hp
      · cases e : h a with
        | none => exact absurd e hp
        | some o => exact (S.at_ a o e).1
    · rw [up_ne c] at q
      obtain ⟨n, u, e, k⟩ := S.at_ a o q
      exact ⟨n, u, by rw [upd_ne c]; exact e, k.tr t⟩
  · by_cases c : a = p
    · subst c
      refine ⟨v, upd_same, fun xs z => ?_⟩
      subst z
      cases k
    · rw [upd_ne c]; exact S.hid a z
/-- some mutable objects are forgotten -/
theorem Sim.drop (S : Sim K N H h) (f : ∀ a o, h' a = some o → h a = some o) : Sim K N H h' := by
  have t : Tr H h H h' := ⟨fun a o e q => ⟨e, by
    cases z : h' a with
    | none => rfl
    | some o => rw [f a o z] at q; cases q⟩, fun _ e => e⟩
  exact ⟨fun a o q => by
    obtain ⟨n, u, e, k⟩ := S.at_ a o (f a o q)
    exact ⟨n, u, e, k.tr t⟩, S.hid⟩
theorem Tr.drop (f : ∀ a o, h' a = some o → h a = some o) : Tr H h H h' := ⟨fun a o e q => ⟨e, by
  cases z : h' a with
  | none => rfl
  | some o => rw [f a o z] at q; cases q⟩, fun _ e => e⟩
end
/-! ### slots -/
abbrev Ev' := List (Option PyData)
def En (K : PySem.W.Frag) (N : Addr → Prop) (H : Hp) (h : Lh) (σ : L2.St) (ρ : Ev') : Prop := σ.length = ρ.length ∧ ∀ (i : Nat) (d : PyData), ρ[i]? = some (some d) → ∃ v, σ[i]? = some (some v) ∧ Rl K N H h v d
section
variable {K : PySem.W.Frag} {N N' : Addr → Prop} {H H' H1 : Hp} {h h' h1 : Lh} {σ : L2.St} {ρ : Ev'}
theorem En.tr (t : Tr H h H' h') (e : En K N H h σ ρ) : En K N H' h' σ ρ := ⟨e.1, fun i d q => by
  obtain ⟨v, a, b⟩ := e.2 i d q
  exact ⟨v, a, b.tr t⟩⟩
theorem En.mono (f : ∀ v d, Rl K N H h v d → Rl K N' H' h' v d) (e : En K N H h σ ρ) : En K N' H' h' σ ρ := ⟨e.1, fun i d q => by
  obtain ⟨v, a, b⟩ := e.2 i d q
  exact ⟨v, a, f _ _ b⟩⟩
theorem En.set {v : V} {d : PyData} (e : En K N H h σ ρ) (i : Nat) (r : Rl K N H h v d) : En K N H h (σ.set i (some v)) (ρ.set i (some d)) := ⟨by rw [List.length_set, List.length_set]; exact e.1, fun j c q => by
  by_cases z : i = j
  · subst z
    have hl : i < ρ.length := by
      have := List.getElem?_eq_some_iff.mp q
      obtain ⟨w, _⟩ := this
      rw [List.length_set] at w; exact w
    rw [List.getElem?_set_self hl] at q
    cases q
    exact ⟨v, by rw [List.getElem?_set_self (by rw [e.1]; exact hl)], r⟩
  · rw [List.getElem?_set_ne z] at q
    rw [List.getElem?_set_ne z]
    exact e.2 j c q⟩
theorem En.non (e : En K N H h σ ρ) (i : Nat) : En K N H h (σ.set i none) (ρ.set i none) := ⟨by rw [List.length_set, List.length_set]; exact e.1, fun j c q => by
  by_cases z : i = j
  · subst z
    have hl : i < ρ.length := by
      have := List.getElem?_eq_some_iff.mp q
      obtain ⟨w, _⟩ := this
      rw [List.length_set] at w; exact w
    rw [List.getElem?_set_self hl] at q
    cases q
  · rw [List.getElem?_set_ne z] at q
    rw [List.getElem?_set_ne z]
    exact e.2 j c q⟩
@[simp] def wipeD (ρ : Ev') : List Nat → Ev'
  | [] => ρ
  | v :: vs => (wipeD ρ vs).set v none
theorem En.wipe (e : En K N H h σ ρ) : ∀ vs, En K N H h (wipe σ vs) (wipeD ρ vs)
  | [] => e
  | v :: vs => (En.wipe e vs).non v
@[simp] def startD (NM : List Str) (ds : List PyData) : Ev' := ds.map some ++ List.replicate (NM.length - ds.length) none
theorem En.start {NM : List Str} {vs : List V} {ds : List PyData} (r : Rls K N H h vs ds) : En K N H h (L2.start NM vs) (startD NM ds) := by
  unfold L2.start startD
  refine ⟨by simp [r.length], fun i d q => ?_⟩
  rw [List.getElem?_append] at q
  split at q
  · rename_i hl
    rw [List.length_map] at hl
    rw [List.getElem?_map] at q
    obtain ⟨d', hd⟩ : ∃ d', ds[i]? = some d' := ⟨ds[i], by simp [hl]⟩
    rw [hd] at q
    cases q
    obtain ⟨v, hv, iv⟩ := r.getD hd
    refine ⟨v, ?_, iv⟩
    rw [List.getElem?_append_left (by rw [List.length_map, r.length]; exact hl), List.getElem?_map, hv]; rfl
  · exfalso
    rw [List.getElem?_replicate] at q
    by_cases z : i - (ds.map some).length < NM.length - ds.length
    · rw [if_pos z] at q; cases q
    · rw [if_neg z] at q; cases q
end
end Wl
set_option Elab.async false
set_option linter.all false
set_option maxRecDepth 100000
set_option maxHeartbeats 2000000
/-! Wb: what expressions ask, over data and references. -/
namespace Wl
open PySem PySem.Spec PyProof.Rows L2 Evl Pd
abbrev Wv := PyData → Lh → Prop
abbrev WE := Ev' → Lh → Wv → Prop
abbrev WA := Ev' → Lh → (List PyData → Lh → Prop) → Prop
abbrev WT := Ev' → Lh → (Bool → Lh → Prop) → Prop
abbrev WO := Ev' → Lh → (Option Int → Lh → Prop) → Prop
/-- what exceptions go on to: of the real state, of the plain one -/
structure XP where
  E : L2.St → XK
  X : Ev' → Addr → List (Str × PyData) → Lh → Prop
/-- an exception's own dict -/
def XRel (K : PySem.W.Frag) (N : Addr → Prop) (H : Hp) (h : Lh) (d : Option Addr) (fs : List (Str × PyData)) : Prop := match d with
  | none => fs = []
  | some dd => ∃ xs, H dd = some (.xd xs) ∧ Paired (fun (p : Str × V) (q : Str × PyData) => p.1 = q.1 ∧ Rl K N H h p.2 q.2) xs fs
def KoX (K : PySem.W.Frag) (XX : XP) (N : Addr → Prop) (H : Hp) (h : Lh) : Prop := ∀ σ ρ C d fs H' h', Tr H h H' h' → Sim K N H' h' → En K N H' h' σ ρ → XRel K N H' h' d fs → XX.X ρ C fs h' → XX.E σ (.ref C) d H'
structure Sx (K : PySem.W.Frag) (XX : XP) (N : Addr → Prop) (H : Hp) (h : Lh) : Prop extends Sim K N H h where
  x : KoX K XX N H h
instance {K : PySem.W.Frag} {XX : XP} {N : Addr → Prop} {H : Hp} {h : Lh} : CoeOut (Sx K XX N H h) (Sim K N H h) := ⟨Sx.toSim⟩
section
variable {K : PySem.W.Frag} {XX : XP} {N N' : Addr → Prop} {H H' : Hp} {h h' : Lh} {u : HO} {o : LO}
theorem KoX.tr (t : Tr H h H' h') (k : KoX K XX N H h) : KoX K XX N H' h' := fun σ ρ C d fs H2 h2 t2 => k σ ρ C d fs H2 h2 (t.trans t2)
theorem XRel.mono (f : ∀ v d, Rl K N H h v d → Rl K N' H h v d) {d : Option Addr} {fs : List (Str × PyData)} (x : XRel K N H h d fs) : XRel K N' H h d fs := by
  cases d with
  | none => exact x
  | some dd =>
    obtain ⟨xs, e, p⟩ := x
    exact ⟨xs, e, Paired.mono2 (fun a b z => ⟨z.1, f _ _ z.2⟩) p⟩
theorem Sim.less (n : ∀ a, N a → N' a) (S : Sim K N' H h) : Sim K N H h := by
  have f : ∀ a, N a → N' a ∨ H a = none := fun a z => .inl (n a z)
  exact ⟨fun a o q => by
    obtain ⟨n', u', e', k'⟩ := S.at_ a o q
    exact ⟨fun z => n' (n a z), u', e', k'.mono (fun v d => Rl.hid f) (fun v d => Rls.hid f)⟩, fun a z => S.hid a (n a z)⟩
/-- more is hidden -/
theorem KoX.hid (n : ∀ a, N a → N' a) (k : KoX K XX N H h) : KoX K XX N' H h := fun σ ρ C d fs H2 h2 t2 S2 E2 x2 p2 => by
  have f : ∀ a, N a → N' a ∨ H2 a = none := fun a z => .inl (n a z)
  exact k σ ρ C d fs H2 h2 t2 (S2.less n) (E2.mono fun v d => Rl.hid f) (x2.mono fun v d => Rl.hid f) p2
theorem Sx.to (S : Sx K XX N H h) (t : Tr H h H' h') (S' : Sim K N H' h') : Sx K XX N H' h' := ⟨S', S.x.tr t⟩
theorem Sx.ex (S : Sx K XX N H h) (e : Ex H H') : Sx K XX N H' h := S.to (Tr.ex e) (S.toSim.ex e)
theorem Sx.new {p : Addr} {v : HO} (S : Sx K XX N H h) (hp : H p = none) : Sx K XX N (L2.upd H p v) h := S.to (Tr.new hp) (S.toSim.new hp)
theorem Sx.put {p : Addr} {v : HO} {l : LO} (S : Sx K XX N H h) (hp : H p = none ∨ h p ≠ none) (k : Ok1 K N H h v l) : Sx K XX N (L2.upd H p v) (up h p l) := S.to (Tr.put hp) (S.toSim.put hp k)
theorem Sx.drop (S : Sx K XX N H h) (f : ∀ a o, h' a = some o → h a = some o) : Sx K XX N H h' := S.to (Tr.drop f) (S.toSim.drop f)
end
section
variable (K : PySem.W.Frag) (XX : XP) (N : Addr → Prop) (H : Hp) (h : Lh)
def Ko (P : Wv) (Q : VK) : Prop := ∀ v d H' h', Tr H h H' h' → Sx K XX N H' h' → Rl K N H' h' v d → P d h' → Q v H'
def KoA (P : List PyData → Lh → Prop) (Q : List V → Hp → Prop) : Prop := ∀ vs ds H' h', Tr H h H' h' → Sx K XX N H' h' → Rls K N H' h' vs ds → P ds h' → Q vs H'
def KoT (P : Bool → Lh → Prop) (Q : Bool → Hp → Prop) : Prop := ∀ b H' h', Tr H h H' h' → Sx K XX N H' h' → P b h' → Q b H'
def KoO (P : Option Int → Lh → Prop) (Q : Option Int → Hp → Prop) : Prop := ∀ b H' h', Tr H h H' h' → Sx K XX N H' h' → P b h' → Q b H'
/-- a new list -/
def KoN (P : List PyData → Lh → Prop) (Q : VK) : Prop := ∀ p xs ds H' h', H p = none → Tr H h H' h' → Sx K XX (fun a => N a ∨ a = p) H' h' → H' p = some (.lst xs) → Rls K (fun a => N a ∨ a = p) H' h' xs ds → P ds h' → Q (.ref p) H'
end
@[simp] theorem clean_none : Wl.clean .none = true := by simp [Wl.clean]
@[simp] theorem clean_int {i : Int} : Wl.clean (.int i) = true := by simp [Wl.clean]
@[simp] theorem clean_bool {i : Bool} : Wl.clean (.bool i) = true := by simp [Wl.clean]
@[simp] theorem clean_str {i : Str} : Wl.clean (.str i) = true := by simp [Wl.clean]
@[simp] theorem clean_tup {ds : List PyData} : Wl.clean (.tuple ds) = Wl.cleans ds := by simp [Wl.clean]
@[simp] theorem clean_lst {ds : List PyData} : Wl.clean (.list ds) = Wl.cleans ds := by simp [Wl.clean]
@[simp] theorem cleans_nil : Wl.cleans [] = true := by simp [Wl.cleans]
@[simp] theorem cleans_cons {d : PyData} {ds : List PyData} : Wl.cleans (d :: ds) = (Wl.clean d && Wl.cleans ds) := by simp [Wl.cleans]
theorem cleans_iff {ds : List PyData} : Wl.cleans ds = true ↔ ∀ d ∈ ds, Wl.clean d = true := by
  induction ds with
  | nil => simp
  | cons d ds ih => simp [ih]
class RE (K : PySem.W.Frag) (XX : XP) (te : TE) (w : outParam WE) : Prop where
  run : ∀ {N : Addr → Prop} {σ : L2.St} {H : Hp} {ρ : Ev'} {h : Lh} {P : Wv} {Q : VK}, Sx K XX N H h → En K N H h σ ρ → w ρ h P → Ko K XX N H h P Q → te σ H Q
class RA (K : PySem.W.Frag) (XX : XP) (te : TA) (w : outParam WA) : Prop where
  run : ∀ {N : Addr → Prop} {σ : L2.St} {H : Hp} {ρ : Ev'} {h : Lh} {P : List PyData → Lh → Prop} {Q : List V → Hp → Prop}, Sx K XX N H h → En K N H h σ ρ → w ρ h P → KoA K XX N H h P Q → te σ H Q
class RT (K : PySem.W.Frag) (XX : XP) (te : TT) (w : outParam WT) : Prop where
  run : ∀ {N : Addr → Prop} {σ : L2.St} {H : Hp} {ρ : Ev'} {h : Lh} {P : Bool → Lh → Prop} {Q : Bool → Hp → Prop}, Sx K XX N H h → En K N H h σ ρ → w ρ h P → KoT K XX N H h P Q → te σ H Q
class RO (K : PySem.W.Frag) (XX : XP) (te : TO) (w : outParam WO) : Prop where
  run : ∀ {N : Addr → Prop} {σ : L2.St} {H : Hp} {ρ : Ev'} {h : Lh} {P : Option Int → Lh → Prop} {Q : Option Int → Hp → Prop}, Sx K XX N H h → En K N H h σ ρ → w ρ h P → KoO K XX N H h P Q → te σ H Q
class RN (K : PySem.W.Frag) (XX : XP) (te : TE) (w : outParam WA) : Prop where
  run : ∀ {N : Addr → Prop} {σ : L2.St} {H : Hp} {ρ : Ev'} {h : Lh} {P : List PyData → Lh → Prop} {Q : VK}, Sx K XX N H h → En K N H h σ ρ → w ρ h P → KoN K XX N H h P Q → te σ H Q
class R2W (K : PySem.W.Frag) (r : R2) (f : outParam (PyData → PyData → Lh → Wv → Prop)) : Prop where
  run : ∀ {XX : XP} {N : Addr → Prop} {H : Hp} {h : Lh} {x y : V} {d e : PyData} {P : Wv} {Q : VK}, Sx K XX N H h → Rl K N H h x d → Rl K N H h y e → f d e h P → Ko K XX N H h P Q → r x y H Q
class R1W (K : PySem.W.Frag) (r : V → Hp → VK → Prop) (f : outParam (PyData → Lh → Wv → Prop)) : Prop where
  run : ∀ {XX : XP} {N : Addr → Prop} {H : Hp} {h : Lh} {x : V} {d : PyData} {P : Wv} {Q : VK}, Sx K XX N H h → Rl K N H h x d → f d h P → Ko K XX N H h P Q → r x H Q
/-- a built-in's call -/
class RCW (K : PySem.W.Frag) (r : List V → Hp → VK → Prop) (f : outParam (List PyData → Lh → Wv → Prop)) : Prop where
  run : ∀ {XX : XP} {N : Addr → Prop} {H : Hp} {h : Lh} {xs : List V} {ds : List PyData} {P : Wv} {Q : VK}, Sx K XX N H h → Rls K N H h xs ds → f ds h P → Ko K XX N H h P Q → r xs H Q
/-- .. that makes a new list -/
class RCN (K : PySem.W.Frag) (r : List V → Hp → VK → Prop) (f : outParam (List PyData → Lh → (List PyData → Lh → Prop) → Prop)) : Prop where
  run : ∀ {XX : XP} {N : Addr → Prop} {H : Hp} {h : Lh} {xs : List V} {ds : List PyData} {P : List PyData → Lh → Prop} {Q : VK}, Sx K XX N H h → Rls K N H h xs ds → f ds h P → KoN K XX N H h P Q → r xs H Q
class R2N (K : PySem.W.Frag) (r : R2) (f : outParam (PyData → PyData → Lh → (List PyData → Lh → Prop) → Prop)) : Prop where
  run : ∀ {XX : XP} {N : Addr → Prop} {H : Hp} {h : Lh} {x y : V} {d e : PyData} {P : List PyData → Lh → Prop} {Q : VK}, Sx K XX N H h → Rl K N H h x d → Rl K N H h y e → f d e h P → KoN K XX N H h P Q → r x y H Q
section
variable {K : PySem.W.Frag} {XX : XP} {N : Addr → Prop} {H H' : Hp} {h h' : Lh} {P : Wv} {Q : VK} {v : V} {d : PyData}
theorem Ko.tr (t : Tr H h H' h') (k : Ko K XX N H h P Q) : Ko K XX N H' h' P Q := fun v d H2 h2 t2 S r p => k v d H2 h2 (t.trans t2) S r p
theorem KoA.tr {P : List PyData → Lh → Prop} {Q : List V → Hp → Prop} (t : Tr H h H' h') (k : KoA K XX N H h P Q) : KoA K XX N H' h' P Q := fun v d H2 h2 t2 S r p => k v d H2 h2 (t.trans t2) S r p
theorem KoT.tr {P : Bool → Lh → Prop} {Q : Bool → Hp → Prop} (t : Tr H h H' h') (k : KoT K XX N H h P Q) : KoT K XX N H' h' P Q := fun b H2 h2 t2 S p => k b H2 h2 (t.trans t2) S p
theorem KoO.tr {P : Option Int → Lh → Prop} {Q : Option Int → Hp → Prop} (t : Tr H h H' h') (k : KoO K XX N H h P Q) : KoO K XX N H' h' P Q := fun b H2 h2 t2 S p => k b H2 h2 (t.trans t2) S p
theorem KoN.tr {P : List PyData → Lh → Prop} (t : Tr H h H' h') (k : KoN K XX N H h P Q) : KoN K XX N H' h' P Q := fun p xs ds H2 h2 n t2 S e r q => k p xs ds H2 h2 (t.n p n) (t.trans t2) S e r q
theorem Ko.at {K : PySem.W.Frag} (k : Ko K XX N H h P Q) (S : Sx K XX N H h) (r : Rl K N H h v d) (p : P d h) : Q v H := k v d H h (Tr.refl H h) S r p
theorem Ko.w {P' : Wv} (k : Ko K XX N H h P Q) (f : ∀ d h', P' d h' → P d h') : Ko K XX N H h P' Q := fun v d H' h' t S r p => k v d H' h' t S r (f _ _ p)
/-- a new tuple -/
theorem Ko.tup {p : Addr} {xs : List V} {ds : List PyData} (k : Ko K XX N H h P Q) (S : Sx K XX N H h) (hp : H p = none) (r : Rls K N H h xs ds) (q : P (.tuple ds) h) : Q (.ref p) (L2.upd H p (.tup xs)) :=
  k _ _ _ h (Tr.new hp) (S.new hp) (.tup (.inl ⟨.inl upd_same, S.hn hp, S.nn hp⟩) (r.tr (Tr.new hp))) q
theorem Sim.more {p : Addr} (S : Sim K N H h) (hp : H p = none) {u : HO} (nt : ∀ xs, u ≠ .tup xs := by intro _ z; cases z) : Sim K (fun a => N a ∨ a = p) (L2.upd H p u) h := by
  have S' := S.new (v := u) hp
  have f : ∀ a, (N a ∨ a = p) → N a ∨ H a = none := fun a z => z.imp id fun e => by rw [e]; exact hp
  refine ⟨fun a o q => ?_, fun a z => ?_⟩
  · obtain ⟨n, u', e, k⟩ := S.at_ a o q
    have ne : a ≠ p := fun z => by rw [z, hp] at e; cases e
    refine ⟨fun z => z.elim n ne, u', by rw [upd_ne ne]; exact e, ?_⟩
    have f2 : ∀ a, (N a ∨ a = p) → N a ∨ H a = none := f
    exact (k.mono (fun v d r => Rl.hid f2 r) (fun v d r => Rls.hid f2 r)).tr (Tr.new hp)
  · rcases z with z | z
    · exact S'.hid a z
    · subst z; exact ⟨u, upd_same, nt⟩
theorem Sx.more {p : Addr} (S : Sx K XX N H h) (hp : H p = none) {u : HO} (nt : ∀ xs, u ≠ .tup xs := by intro _ z; cases z) : Sx K XX (fun a => N a ∨ a = p) (L2.upd H p u) h := ⟨S.toSim.more hp nt, (S.x.tr (Tr.new hp)).hid fun a z => .inl z⟩
theorem Rls.more {p : Addr} {xs : List V} {ds : List PyData} {u : HO} (r : Rls K N H h xs ds) (hp : H p = none) : Rls K (fun a => N a ∨ a = p) (L2.upd H p u) h xs ds :=
  (Rls.hid (N' := fun a => N a ∨ a = p) (fun a z => z.imp id fun e => by rw [e]; exact hp) r).tr (Tr.new hp)
theorem KoN.new {p : Addr} {xs : List V} {ds : List PyData} {P : List PyData → Lh → Prop} (k : KoN K XX N H h P Q) (S : Sx K XX N H h) (hp : H p = none) (r : Rls K N H h xs ds) (q : P ds h) : Q (.ref p) (L2.upd H p (.lst xs)) :=
  k p xs ds _ h hp (Tr.new hp) (S.more hp) upd_same (r.more hp) q
/-- the new list: data -/
theorem Ko.lst {P : Wv} (k : Ko K XX N H h P Q) (S : Sx K XX N H h) : KoN K XX N H h (fun ds h' => P (.list ds) h') Q := fun p xs ds H' h' n t S' e r q => by
  have f : ∀ a, N a → (N a ∨ a = p) ∨ H' a = none := fun a z => .inl (.inl z)
  have np : ¬ N p := S.nn n
  have hp' : h' p = none := by
    cases z : h' p with
    | none => rfl
    | some o => exact absurd (.inr rfl) (S'.at_ p o z).1
  exact k _ _ H' h' t (S.to t (S'.toSim.less fun a z => .inl z)) (.lst ⟨e, hp', np⟩ (r.hid f)) q
/-- the new list: mutable -/
theorem Ko.ref {P : Wv} (k : Ko K XX N H h P Q) (S : Sx K XX N H h) : KoN K XX N H h (fun ds h' => ∀ p, h p = none → h' p = none → P (rf p) (up h' p (.lst ds))) Q := fun p xs ds H' h' n t S' e r q => by
  have np : ¬ N p := S.nn n
  have hp' : h' p = none := by
    cases z : h' p with
    | none => rfl
    | some o => exact absurd (.inr rfl) (S'.at_ p o z).1
  have f : ∀ a o, H' a = some o → h' a = none → ¬ (N a ∨ a = p) → H' a = some o ∧ up h' p (.lst ds) a = none ∧ ¬ N a := fun a o e1 e2 e3 => by
    have ne : a ≠ p := fun z => e3 (.inr z)
    exact ⟨e1, by rw [up_ne ne]; exact e2, fun z => e3 (.inl z)⟩
  have t2 : Tr H h H' (up h' p (.lst ds)) := ⟨fun a o e1 e2 => by
    have ne : a ≠ p := fun z => by rw [z, n] at e1; cases e1
    exact ⟨(t.k a o e1 e2).1, by rw [up_ne ne]; exact (t.k a o e1 e2).2⟩, t.n⟩
  refine k _ _ H' (up h' p (.lst ds)) t2 (S.to t2 ⟨fun a o q => ?_, fun a z => S'.hid a (.inl z)⟩) (.rf p) (q p (S.hn n) hp')
  by_cases c : a = p
  · subst c
    rw [up_same] at q
    cases q
    exact ⟨np, _, e, .lst (r.trN f)⟩
  · rw [up_ne c] at q
    obtain ⟨n', u', e', k'⟩ := S'.at_ a o q
    exact ⟨fun z => n' (.inl z), u', e', k'.mono (fun v d => Rl.trN f) (fun v d => Rls.trN f)⟩
/-- what is read as a list -/
def lv (h : Lh) : PyData → Option (List PyData)
  | .list ds => some ds
  | .dict [(.int i, .none)] => match h i.toNat with
    | some (.lst ds) => some ds
    | _ => none
  | .dict [(.none, .tuple ds)] => some ds
  | _ => none
/-- the script -/
def isSc : PyData → Bool
  | .dict [(.none, _)] => true
  | _ => false
@[simp] theorem isSc_list {ds : List PyData} : isSc (.list ds) = false := rfl
@[simp] theorem isSc_rf {i : Int} : isSc (.dict [(.int i, .none)]) = false := rfl
@[simp] theorem lv_sc {h : Lh} {ds : List PyData} : Wl.lv h (.dict [(.none, .tuple ds)]) = some ds := rfl
@[simp] theorem lv_list {h : Lh} {ds : List PyData} : Wl.lv h (.list ds) = some ds := rfl
@[simp] theorem lv_tup {h : Lh} {ds : List PyData} : Wl.lv h (.tuple ds) = Option.none := rfl
@[simp] theorem lv_int {h : Lh} {i : Int} : Wl.lv h (.int i) = Option.none := rfl
@[simp] theorem lv_str {h : Lh} {i : Str} : Wl.lv h (.str i) = Option.none := rfl
@[simp] theorem lv_bool {h : Lh} {i : Bool} : Wl.lv h (.bool i) = Option.none := rfl
@[simp] theorem lv_none {h : Lh} : Wl.lv h .none = Option.none := rfl
@[simp] theorem lv_rf {h : Lh} {p : Addr} : Wl.lv h (.dict [(.int ((p : Nat) : Int), .none)]) = match h p with | some (.lst ds) => some ds | _ => Option.none := by simp only [Wl.lv, Int.toNat_natCast]
theorem Rl.lvo {ds : List PyData} (S : Sx K XX N H h) (r : Rl K N H h v d) (e : Wl.lv h d = some ds) (c : isSc d = false) : ∃ a xs, v = .ref a ∧ H a = some (.lst xs) ∧ Rls K N H h xs ds := by
  cases r with
  | lst a b => cases e; exact ⟨_, _, rfl, a.1, b⟩
  | rf a =>
    simp only [Wl.lv, Int.toNat_natCast] at e
    cases q : h a with
    | none => rw [q] at e; cases e
    | some o =>
      obtain ⟨n, u, z, k⟩ := S.at_ a o q
      cases k with
      | lst k => rw [q] at e; cases e; exact ⟨a, _, rfl, z, k⟩
      | _ => rw [q] at e; cases e
  | scr ns _ => cases c
  | _ => cases e
theorem Rls.ints : ∀ ns : List Int, Rls K N H h (ns.map V.int) (ns.map PyData.int)
  | [] => .nil
  | n :: ns => .cons (.int n) (Rls.ints ns)
theorem Rl.lv {ds : List PyData} (S : Sx K XX N H h) (r : Rl K N H h v d) (e : Wl.lv h d = some ds) : ∃ a xs, v = .ref a ∧ SqL K H a xs ∧ Rls K N H h xs ds := by
  cases c : isSc d with
  | false =>
    obtain ⟨a, xs, e1, e2, e3⟩ := r.lvo S e c
    exact ⟨a, xs, e1, SqL.of e2, e3⟩
  | true =>
    cases r with
    | scr ns q =>
      cases e
      refine ⟨_, _, rfl, ?_, Rls.ints ns⟩
      rcases q with q | q
      · exact .inl q.1
      · exact .inr q
    | rf a => cases c
    | lst _ _ => cases c
    | _ => cases e
theorem Rl.lvH {ds : List PyData} {a : Addr} (S : Sx K XX N H h) (e : h a = some (.lst ds)) : ∃ xs, H a = some (.lst xs) ∧ Rls K N H h xs ds := by
  obtain ⟨n, u, z, k⟩ := S.at_ a _ e
  cases k with
  | lst k => exact ⟨_, z, k⟩
theorem Rl.insH {fs : List (Str × PyData)} {a C : Addr} (S : Sx K XX N H h) (e : h a = some (.ins C fs)) : ∃ dx xs, H a = some (.ins C dx xs) ∧ Paired (fun (p : Str × V) (q : Str × PyData) => p.1 = q.1 ∧ Rl K N H h p.2 q.2) xs fs := by
  obtain ⟨n, u, z, k⟩ := S.at_ a _ e
  cases k with
  | ins k => exact ⟨_, _, z, k⟩
theorem Paired.lookup {f : Str} : ∀ {xs : List (Str × V)} {fs : List (Str × PyData)}, Paired (fun (p : Str × V) (q : Str × PyData) => p.1 = q.1 ∧ Rl K N H h p.2 q.2) xs fs →
    (fs.lookup f = none → xs.lookup f = none) ∧ ∀ d, fs.lookup f = some d → ∃ v, xs.lookup f = some v ∧ Rl K N H h v d
  | _, _, .nil => ⟨fun _ => rfl, fun d e => by cases e⟩
  | (k, v) :: xs, (k', d') :: fs, .cons a b => by
    obtain ⟨a1, a2⟩ := a
    cases a1
    have ih := Paired.lookup (f := f) b
    by_cases c : f == k
    · refine ⟨fun e => ?_, fun d e => ?_⟩
      · simp [List.lookup, c] at e
      · simp [List.lookup, c] at e
        subst e
        exact ⟨v, by simp [List.lookup, c], a2⟩
    · simp only [Bool.not_eq_true] at c
      refine ⟨fun e => ?_, fun d e => ?_⟩
      · simp only [List.lookup, c] at e ⊢
        exact ih.1 e
      · simp only [List.lookup, c] at e ⊢
        exact ih.2 d e
end
/-! ### names, constants -/
@[simp] def wVar (i : Nat) : WE := fun ρ h P => ∃ d, ρ[i]? = some (some d) ∧ P d h
@[simp] def wC (d : PyData) : WE := fun _ h P => P d h
/-- a constant of the text -/
class KD (K : PySem.W.Frag) (a : Addr) (d : outParam PyData) : Prop where
  is : ∀ N H h, Rl K N H h (.ref a) d
section
variable {K : PySem.W.Frag} {XX : XP}
instance (i : Nat) : RE K XX (tVar i) (wVar i) := ⟨fun S E ⟨d, e, p⟩ k => by
  obtain ⟨v, a, r⟩ := E.2 i d e
  exact ⟨v, a, k.at S r p⟩⟩
instance : RE K XX (tC .non) (wC .none) := ⟨fun S E p k => k.at S .non p⟩
instance (b : Bool) : RE K XX (tC (.bl b)) (wC (.bool b)) := ⟨fun S E p k => k.at S (.bl b) p⟩
instance (b : Int) : RE K XX (tC (.int b)) (wC (.int b)) := ⟨fun S E p k => k.at S (.int b) p⟩
instance (b : Str) : RE K XX (tC (.str b)) (wC (.str b)) := ⟨fun S E p k => k.at S (.str b) p⟩
instance (a : Addr) (d : PyData) [c : KD K a d] : RE K XX (tC (.ref a)) (wC d) := ⟨fun S E p k => k.at S (c.is _ _ _) p⟩
/-! ### arguments, displays -/
@[simp] def wNil : WA := fun _ h P => P [] h
@[simp] def wCons (a : WE) (b : WA) : WA := fun ρ h P => a ρ h fun d h1 => b ρ h1 fun ds h2 => P (d :: ds) h2
instance : RA K XX tNil wNil := ⟨fun S E p k => k _ _ _ _ (Tr.refl _ _) S .nil p⟩
instance {ta : TE} {tb : TA} {a : WE} {b : WA} [A : RE K XX ta a] [B : RA K XX tb b] : RA K XX (tCons ta tb) (wCons a b) := ⟨fun S E p k =>
  A.run S E p fun v d H1 h1 t1 S1 r1 p1 => B.run S1 (E.tr t1) p1 fun vs ds H2 h2 t2 S2 r2 p2 => k _ _ _ _ (t1.trans t2) S2 (.cons (r1.tr t2) r2) p2⟩
@[simp] def wTup (a : WA) : WE := fun ρ h P => a ρ h fun ds h1 => ds.length ≤ 100000 ∧ P (.tuple ds) h1
instance {ta : TA} {a : WA} [A : RA K XX ta a] : RE K XX (tTup ta) (wTup a) := ⟨fun S E p k =>
  A.run S E p fun vs ds H1 h1 t1 S1 r1 p1 => ⟨sz_of (by rw [r1.length]; exact p1.1), fun p hp => (k.tr t1).tup S1 hp r1 p1.2⟩⟩
@[simp] def wLst (a : WA) : WA := fun ρ h P => a ρ h fun ds h1 => ds.length ≤ 100000 ∧ P ds h1
instance {ta : TA} {a : WA} [A : RA K XX ta a] : RN K XX (tLst ta) (wLst a) := ⟨fun S E p k =>
  A.run S E p fun vs ds H1 h1 t1 S1 r1 p1 => ⟨sz_of (by rw [r1.length]; exact p1.1), fun p hp => (k.tr t1).new S1 hp r1 p1.2⟩⟩
/-- a new list, as data -/
@[simp] def wDat (a : WA) : WE := fun ρ h P => a ρ h fun ds h1 => P (.list ds) h1
instance (priority := low) {te : TE} {a : WA} [A : RN K XX te a] : RE K XX te (wDat a) := ⟨fun S E p k => A.run S E p (k.lst S)⟩
/-- .. that will change -/
def tRef (te : TE) : TE := te
@[simp] def wRef (a : WA) : WE := fun ρ h P => a ρ h fun ds h1 => ∀ p, h p = none → h1 p = none → P (rf p) (up h1 p (.lst ds))
instance {te : TE} {a : WA} [A : RN K XX te a] : RE K XX (tRef te) (wRef a) := ⟨fun S E p k => A.run (te := te) S E p (k.ref S)⟩
theorem pe_ref {X : Cx} {e : Expr} {te : TE} (h : PE X e te) : PE X e (tRef te) := h
/-! ### operators -/
@[simp] def wOp (f : PyData → PyData → Lh → Wv → Prop) (a b : WE) : WE := fun ρ h P => a ρ h fun d h1 => b ρ h1 fun e h2 => f d e h2 P
instance {r : R2} {f : PyData → PyData → Lh → Wv → Prop} {ta tb : TE} {a b : WE} [A : RE K XX ta a] [B : RE K XX tb b] [R : R2W K r f] : RE K XX (tOp r ta tb) (wOp f a b) := ⟨fun S E p k =>
  A.run S E p fun v d H1 h1 t1 S1 r1 p1 => B.run S1 (E.tr t1) p1 fun w e H2 h2 t2 S2 r2 p2 => R.run S2 (r1.tr t2) r2 p2 (k.tr (t1.trans t2))⟩
@[simp] def wOpN (f : PyData → PyData → Lh → (List PyData → Lh → Prop) → Prop) (a b : WE) : WA := fun ρ h P => a ρ h fun d h1 => b ρ h1 fun e h2 => f d e h2 P
instance {r : R2} {f : PyData → PyData → Lh → (List PyData → Lh → Prop) → Prop} {ta tb : TE} {a b : WE} [A : RE K XX ta a] [B : RE K XX tb b] [R : R2N K r f] : RN K XX (tOp r ta tb) (wOpN f a b) := ⟨fun S E p k =>
  A.run S E p fun v d H1 h1 t1 S1 r1 p1 => B.run S1 (E.tr t1) p1 fun w e H2 h2 t2 S2 r2 p2 => R.run S2 (r1.tr t2) r2 p2 (k.tr (t1.trans t2))⟩
@[simp] def wUn (f : PyData → Lh → Wv → Prop) (a : WE) : WE := fun ρ h P => a ρ h fun d h1 => f d h1 P
instance {r : V → Hp → VK → Prop} {f : PyData → Lh → Wv → Prop} {ta : TE} {a : WE} [A : RE K XX ta a] [R : R1W K r f] : RE K XX (tUn r ta) (wUn f a) := ⟨fun S E p k =>
  A.run S E p fun v d H1 h1 t1 S1 r1 p1 => R.run S1 r1 p1 (k.tr t1)⟩
@[simp] def fII (g : Int → Int → Int) (d e : PyData) (h : Lh) (P : Wv) : Prop := ∃ i j, d = .int i ∧ e = .int j ∧ P (.int (g i j)) h
instance (g : Int → Int → Int) : R2W K (rI0 fun i j => V.int (g i j)) (fII g) := ⟨fun S a b ⟨i, j, e1, e2, p⟩ k => by
  subst e1; subst e2; exact ⟨i, j, a.i, b.i, k.at S (.int _) p⟩⟩
@[simp] def fIB (g : Int → Int → Bool) (d e : PyData) (h : Lh) (P : Wv) : Prop := ∃ i j, d = .int i ∧ e = .int j ∧ P (.bool (g i j)) h
instance (g : Int → Int → Bool) : R2W K (rI0 fun i j => V.bl (g i j)) (fIB g) := ⟨fun S a b ⟨i, j, e1, e2, p⟩ k => by
  subst e1; subst e2; exact ⟨i, j, a.i, b.i, k.at S (.bl _) p⟩⟩
@[simp] def fIC (C : Int → Int → Prop) (g : Int → Int → Int) (d e : PyData) (h : Lh) (P : Wv) : Prop := ∃ i j, d = .int i ∧ e = .int j ∧ C i j ∧ P (.int (g i j)) h
instance (C : Int → Int → Prop) (g : Int → Int → Int) : R2W K (rI C fun i j => V.int (g i j)) (fIC C g) := ⟨fun S a b ⟨i, j, e1, e2, c, p⟩ k => by
  subst e1; subst e2; exact ⟨i, j, a.i, b.i, c, k.at S (.int _) p⟩⟩
/-- == of scalars of one kind, or None -/
def scD : PyData → PyData → Option Bool
  | .none, .none => some true
  | .none, .int _ => some false | .int _, .none => some false
  | .none, .bool _ => some false | .bool _, .none => some false
  | .none, .str _ => some false | .str _, .none => some false
  | .int i, .int j => some (decide (i = j))
  | .bool i, .bool j => some (decide (i = j))
  | .str i, .str j => some (decide (i = j))
  | .int _, .str _ => some false | .str _, .int _ => some false
  | .bool _, .str _ => some false | .str _, .bool _ => some false
  | _, _ => none
@[simp] theorem scD_none_none : Wl.scD .none .none = some true := rfl
@[simp] theorem scD_none_bool {b : Bool} : Wl.scD .none (.bool b) = some false := rfl
@[simp] theorem scD_none_int {b : Int} : Wl.scD .none (.int b) = some false := rfl
@[simp] theorem scD_none_str {b : Str} : Wl.scD .none (.str b) = some false := rfl
@[simp] theorem scD_bool_none {a : Bool} : Wl.scD (.bool a) .none = some false := rfl
@[simp] theorem scD_bool_bool {a : Bool} {b : Bool} : Wl.scD (.bool a) (.bool b) = some (decide (a = b)) := rfl
@[simp] theorem scD_bool_str {a : Bool} {b : Str} : Wl.scD (.bool a) (.str b) = some false := rfl
@[simp] theorem scD_int_none {a : Int} : Wl.scD (.int a) .none = some false := rfl
@[simp] theorem scD_int_int {a : Int} {b : Int} : Wl.scD (.int a) (.int b) = some (decide (a = b)) := rfl
@[simp] theorem scD_int_str {a : Int} {b : Str} : Wl.scD (.int a) (.str b) = some false := rfl
@[simp] theorem scD_str_none {a : Str} : Wl.scD (.str a) .none = some false := rfl
@[simp] theorem scD_str_bool {a : Str} {b : Bool} : Wl.scD (.str a) (.bool b) = some false := rfl
@[simp] theorem scD_str_int {a : Str} {b : Int} : Wl.scD (.str a) (.int b) = some false := rfl
@[simp] theorem scD_str_str {a : Str} {b : Str} : Wl.scD (.str a) (.str b) = some (decide (a = b)) := rfl
theorem scD_ok {N : Addr → Prop} {H : Hp} {h : Lh} {x y : V} {d e : PyData} {b : Bool} (a : Rl K N H h x d) (c : Rl K N H h y e) (q : scD d e = some b) : scal x y = true ∧ decide (x = y) = b := by
  cases a <;> cases c <;> simp_all [scD, scal]
def onB : Option Bool → (Bool → Prop) → Prop
  | some b, k => k b
  | none, _ => False
@[simp] theorem onB_some {b : Bool} {k : Bool → Prop} : onB (some b) k = k b := rfl
@[simp] theorem onB_none {k : Bool → Prop} : onB none k = False := rfl
theorem onB_ex {o : Option Bool} {k : Bool → Prop} (h : onB o k) : ∃ b, o = some b ∧ k b := by
  cases o with
  | none => exact h.elim
  | some b => exact ⟨b, rfl, h⟩
@[simp] def fEq (d e : PyData) (h : Lh) (P : Wv) : Prop := onB (scD d e) fun b => P (.bool b) h
@[simp] def fNe (d e : PyData) (h : Lh) (P : Wv) : Prop := onB (scD d e) fun b => P (.bool (!b)) h
instance : R2W K rEq fEq := ⟨fun S a c z k => by
  obtain ⟨b, e, p⟩ := onB_ex z
  obtain ⟨q1, q2⟩ := scD_ok a c e
  exact ⟨q1, by rw [q2]; exact k.at S (.bl _) p⟩⟩
instance : R2W K rNe fNe := ⟨fun S a c z k => by
  obtain ⟨b, e, p⟩ := onB_ex z
  obtain ⟨q1, q2⟩ := scD_ok a c e
  exact ⟨q1, by rw [q2]; exact k.at S (.bl _) p⟩⟩
@[simp] theorem shaped_none : SeqAt.shaped .none = true := by decide
@[simp] theorem shaped_int {i : Int} : SeqAt.shaped (.int i) = true := by simp [SeqAt.shaped, PyData.canLay0, PyData.depth]
@[simp] theorem shaped_bool {i : Bool} : SeqAt.shaped (.bool i) = true := by simp [SeqAt.shaped, PyData.canLay0, PyData.depth]
@[simp] theorem shaped_nilT : SeqAt.shaped (.tuple []) = true := Pd.shaped_nil
@[simp] theorem shaped_nilL : SeqAt.shaped (.list []) = true := by decide
@[simp] theorem eqv_nilT {ds : List PyData} : PyData.eqv (.tuple ds) (.tuple []) = ds.isEmpty := Pd.eqv_nil ds
/-- == of data; a list that may change as it is now -/
def snap (h : Lh) (d : PyData) : PyData := match lv h d with
  | some ds => .list ds
  | none => d
@[simp] theorem snap_none  {h : Lh} : Wl.snap h .none = .none := rfl
@[simp] theorem snap_bool {b : Bool} {h : Lh} : Wl.snap h (.bool b) = (.bool b) := rfl
@[simp] theorem snap_int {i : Int} {h : Lh} : Wl.snap h (.int i) = (.int i) := rfl
@[simp] theorem snap_str {s : Str} {h : Lh} : Wl.snap h (.str s) = (.str s) := rfl
@[simp] theorem snap_list {l : List PyData} {h : Lh} : Wl.snap h (.list l) = (.list l) := rfl
@[simp] theorem snap_tup {l : List PyData} {h : Lh} : Wl.snap h (.tuple l) = (.tuple l) := rfl
@[simp] theorem snap_rf {h : Lh} {p : Addr} : Wl.snap h (.dict [(.int ((p : Nat) : Int), .none)]) = match h p with | some (.lst ds) => .list ds | _ => .dict [(.int ((p : Nat) : Int), .none)] := by
  simp only [Wl.snap, lv_rf]
  cases h p with
  | none => rfl
  | some o => cases o <;> rfl
theorem Rl.snap {N : Addr → Prop} {H : Hp} {h : Lh} {x : V} {d : PyData} (S : Sx K XX N H h) (r : Rl K N H h x d) (p : clean (Wl.snap h d) = true) : Dp K H x (Wl.snap h d) := by
  unfold Wl.snap at p ⊢
  cases e : Wl.lv h d with
  | none => rw [e] at p; exact r.dp p
  | some ds =>
    obtain ⟨a, xs, rfl, q, rs⟩ := r.lv S e
    rw [e] at p
    exact .lst q (rs.dp p)
@[simp] def fEqD (d e : PyData) (h : Lh) (P : Wv) : Prop := clean (snap h d) = true ∧ clean (snap h e) = true ∧ SeqAt.shaped (snap h d) = true ∧ SeqAt.shaped (snap h e) = true ∧ P (.bool (PyData.eqv (snap h d) (snap h e))) h
@[simp] def fNeD (d e : PyData) (h : Lh) (P : Wv) : Prop := clean (snap h d) = true ∧ clean (snap h e) = true ∧ SeqAt.shaped (snap h d) = true ∧ SeqAt.shaped (snap h e) = true ∧ P (.bool (!PyData.eqv (snap h d) (snap h e))) h
instance : R2W K (rEqD K) fEqD := ⟨fun S a c ⟨p1, p2, s1, s2, p⟩ k => ⟨_, _, a.snap S p1, c.snap S p2, s1, s2, k.at S (.bl _) p⟩⟩
instance : R2W K (rNeD K) fNeD := ⟨fun S a c ⟨p1, p2, s1, s2, p⟩ k => ⟨_, _, a.snap S p1, c.snap S p2, s1, s2, k.at S (.bl _) p⟩⟩
def isN : PyData → Bool
  | .none => true
  | _ => false
@[simp] theorem isN_none  : Wl.isN .none = true := rfl
@[simp] theorem isN_bool {b : Bool} : Wl.isN (.bool b) = false := rfl
@[simp] theorem isN_int {i : Int} : Wl.isN (.int i) = false := rfl
@[simp] theorem isN_str {s : Str} : Wl.isN (.str s) = false := rfl
@[simp] theorem isN_list {l : List PyData} : Wl.isN (.list l) = false := rfl
@[simp] theorem isN_tup {l : List PyData} : Wl.isN (.tuple l) = false := rfl
@[simp] theorem isN_dict {k : List (PyData × PyData)} : Wl.isN (.dict k) = false := rfl
theorem Rl.isN {N : Addr → Prop} {H : Hp} {h : Lh} {x : V} {d : PyData} (a : Rl K N H h x d) : decide (x = .non) = isN d := by cases a <;> rfl
@[simp] def fIs (d e : PyData) (h : Lh) (P : Wv) : Prop := e = .none ∧ P (.bool (isN d)) h
@[simp] def fIsNt (d e : PyData) (h : Lh) (P : Wv) : Prop := e = .none ∧ P (.bool (!isN d)) h
instance : R2W K (fun x y H Q => y = .non ∧ Q (.bl (decide (x = .non))) H) fIs := ⟨fun S a c ⟨e, p⟩ k => by
  subst e; refine ⟨c.n, ?_⟩; rw [a.isN]; exact k.at S (.bl _) p⟩
instance : R2W K (fun x y H Q => y = .non ∧ Q (.bl (!decide (x = .non))) H) fIsNt := ⟨fun S a c ⟨e, p⟩ k => by
  subst e; refine ⟨c.n, ?_⟩; rw [a.isN]; exact k.at S (.bl _) p⟩
/-! texts -/
@[simp] def fSS (g : Str → Str → Bool) (d e : PyData) (h : Lh) (P : Wv) : Prop := ∃ i j, d = .str i ∧ e = .str j ∧ P (.bool (g i j)) h
instance : R2W K (fun x y H Q => ∃ i j, x = .str i ∧ y = .str j ∧ Q (.bl (decide (i.cps.toList < j.cps.toList))) H) (fSS fun i j => decide (i.cps.toList < j.cps.toList)) := ⟨fun S a c ⟨i, j, e1, e2, p⟩ k => by
  subst e1; subst e2; exact ⟨i, j, a.s, c.s, k.at S (.bl _) p⟩⟩
instance : R2W K (fun x y H Q => ∃ i j, x = .str i ∧ y = .str j ∧ Q (.bl (decide (j.cps.toList < i.cps.toList))) H) (fSS fun i j => decide (j.cps.toList < i.cps.toList)) := ⟨fun S a c ⟨i, j, e1, e2, p⟩ k => by
  subst e1; subst e2; exact ⟨i, j, a.s, c.s, k.at S (.bl _) p⟩⟩
instance : R2W K (fun x y H Q => ∃ i j, x = .str i ∧ y = .str j ∧ Q (.bl (!decide (i.cps.toList < j.cps.toList))) H) (fSS fun i j => !decide (i.cps.toList < j.cps.toList)) := ⟨fun S a c ⟨i, j, e1, e2, p⟩ k => by
  subst e1; subst e2; exact ⟨i, j, a.s, c.s, k.at S (.bl _) p⟩⟩
@[simp] def fAddS (d e : PyData) (h : Lh) (P : Wv) : Prop := ∃ i j, d = .str i ∧ e = .str j ∧ i.length + j.length ≤ 100000 ∧ P (.str (i ++ j)) h
instance : R2W K (fun x y H Q => ∃ i j, x = .str i ∧ y = .str j ∧ i.length + j.length ≤ sizeLine ∧ Q (.str (i ++ j)) H) fAddS := ⟨fun S a c ⟨i, j, e1, e2, z, p⟩ k => by
  subst e1; subst e2; exact ⟨i, j, a.s, c.s, sz_of z, k.at S (.str _) p⟩⟩
@[simp] def fInS (d e : PyData) (h : Lh) (P : Wv) : Prop := ∃ (c : Nat) (j : Str), d = .str ⟨#[c]⟩ ∧ e = .str j ∧ P (.bool (decide (c ∈ j.cps.toList))) h
instance : R2W K (fun x y H Q => ∃ (c : Nat) (z : Str), x = .str ⟨#[c]⟩ ∧ y = .str z ∧ Q (.bl (decide (c ∈ z.cps.toList))) H) fInS := ⟨fun S a c ⟨i, j, e1, e2, p⟩ k => by
  subst e1; subst e2; exact ⟨i, j, a.s, c.s, k.at S (.bl _) p⟩⟩
/-! in -/
def tv : PyData → Option (List PyData)
  | .tuple ds => some ds
  | .dict [(.bool true, .tuple ds)] => some ds
  | _ => none
@[simp] theorem tv_none  : Wl.tv .none = Option.none := rfl
@[simp] theorem tv_bool {b : Bool} : Wl.tv (.bool b) = Option.none := rfl
@[simp] theorem tv_int {i : Int} : Wl.tv (.int i) = Option.none := rfl
@[simp] theorem tv_str {s : Str} : Wl.tv (.str s) = Option.none := rfl
@[simp] theorem tv_list {l : List PyData} : Wl.tv (.list l) = Option.none := rfl
@[simp] theorem tv_tup {l : List PyData} : Wl.tv (.tuple l) = some l := rfl
@[simp] theorem tv_bt {l : List PyData} : Wl.tv (.dict [(.bool true, .tuple l)]) = some l := rfl
@[simp] theorem tv_rf {i : Int} {d : PyData} : Wl.tv (.dict [(.int i, d)]) = Option.none := rfl
@[simp] theorem tv_sc {d : PyData} : Wl.tv (.dict [(.none, d)]) = Option.none := rfl
/-- a tuple or a list -/
def qv (h : Lh) (d : PyData) : Option (List PyData) := match tv d with
  | some ds => some ds
  | none => lv h d
@[simp] theorem qv_tup {h : Lh} {l : List PyData} : Wl.qv h (.tuple l) = some l := rfl
@[simp] theorem qv_list {h : Lh} {l : List PyData} : Wl.qv h (.list l) = some l := rfl
@[simp] theorem qv_bt {h : Lh} {l : List PyData} : Wl.qv h (.dict [(.bool true, .tuple l)]) = some l := rfl
@[simp] theorem qv_rfi {h : Lh} {i : Int} {d : PyData} : Wl.qv h (.dict [(.int i, d)]) = Wl.lv h (.dict [(.int i, d)]) := rfl
@[simp] theorem qv_sc {h : Lh} {d : PyData} : Wl.qv h (.dict [(.none, d)]) = Wl.lv h (.dict [(.none, d)]) := rfl
section
variable {N : Addr → Prop} {H : Hp} {h : Lh} {x : V} {d : PyData} {ds : List PyData}
theorem Rls.intsB : ∀ (ns : List Int), Rls K N H h (ns.map V.int) (ns.map PyData.int)
  | [] => .nil
  | n :: ns => .cons (.int n) (Rls.intsB ns)
/-- a bare tuple is a tuple -/
theorem Rl.tvt (r : Rl K N H h x d) (e : Wl.tv d = some ds) : Rl K N H h x (.tuple ds) := by
  unfold Wl.tv at e
  split at e
  · cases e; exact r
  · cases e
    cases r with
    | btp ns o a b c d => exact .tup (.inl ⟨.inr ⟨o, a⟩, c, d⟩) (Rls.intsB ns)
  · cases e
theorem Rl.tv (r : Rl K N H h x d) (e : Wl.tv d = some ds) : ∃ a xs, x = .ref a ∧ SqT K H a xs ∧ Rls K N H h xs ds := by
  obtain ⟨a, xs, e, t, rs⟩ := (r.tvt e).t
  exact ⟨a, xs, e, t.sq, rs⟩
theorem Rl.qv (S : Sx K XX N H h) (r : Rl K N H h x d) (e : Wl.qv h d = some ds) : ∃ a xs, x = .ref a ∧ (SqL K H a xs ∨ SqT K H a xs) ∧ Rls K N H h xs ds := by
  unfold Wl.qv at e
  cases q : Wl.tv d with
  | some es =>
    rw [q] at e; cases e
    obtain ⟨a, xs, e, t, rs⟩ := r.tv q
    exact ⟨a, xs, e, .inr t, rs⟩
  | none =>
    rw [q] at e
    obtain ⟨a, xs, e, t, rs⟩ := r.lv S e
    exact ⟨a, xs, e, .inl t, rs⟩
def flat1 : PyData → Bool
  | .none => true | .bool _ => true | .int _ => true | .str _ => true
  | _ => false
@[simp] theorem flat1_none  : Wl.flat1 .none = true := rfl
@[simp] theorem flat1_bool {b : Bool} : Wl.flat1 (.bool b) = true := rfl
@[simp] theorem flat1_int {i : Int} : Wl.flat1 (.int i) = true := rfl
@[simp] theorem flat1_str {s : Str} : Wl.flat1 (.str s) = true := rfl
@[simp] theorem flat1_list {l : List PyData} : Wl.flat1 (.list l) = false := rfl
@[simp] theorem flat1_tup {l : List PyData} : Wl.flat1 (.tuple l) = false := rfl
@[simp] theorem flat1_dict {k : List (PyData × PyData)} : Wl.flat1 (.dict k) = false := rfl
/-- == of scalars -/
def eq1 : PyData → PyData → Bool
  | .none, .none => true
  | .bool a, .bool b => a == b
  | .bool a, .int b => (if a then 1 else 0) == b
  | .int a, .bool b => a == (if b then 1 else 0)
  | .int a, .int b => a == b
  | .str a, .str b => a == b
  | _, _ => false
@[simp] theorem eq1_none_none : Wl.eq1 .none .none = true := rfl
@[simp] theorem eq1_none_bool {b : Bool} : Wl.eq1 .none (.bool b) = false := rfl
@[simp] theorem eq1_none_int {b : Int} : Wl.eq1 .none (.int b) = false := rfl
@[simp] theorem eq1_none_str {b : Str} : Wl.eq1 .none (.str b) = false := rfl
@[simp] theorem eq1_bool_none {a : Bool} : Wl.eq1 (.bool a) .none = false := rfl
@[simp] theorem eq1_bool_bool {a : Bool} {b : Bool} : Wl.eq1 (.bool a) (.bool b) = (a == b) := rfl
@[simp] theorem eq1_bool_int {a : Bool} {b : Int} : Wl.eq1 (.bool a) (.int b) = ((if a then 1 else 0) == b) := rfl
@[simp] theorem eq1_bool_str {a : Bool} {b : Str} : Wl.eq1 (.bool a) (.str b) = false := rfl
@[simp] theorem eq1_int_none {a : Int} : Wl.eq1 (.int a) .none = false := rfl
@[simp] theorem eq1_int_bool {a : Int} {b : Bool} : Wl.eq1 (.int a) (.bool b) = (a == (if b then 1 else 0)) := rfl
@[simp] theorem eq1_int_int {a : Int} {b : Int} : Wl.eq1 (.int a) (.int b) = decide (b = a) := by
  show (a == b) = decide (b = a)
  by_cases h : a = b
  · subst h; simp
  · simp [h, Ne.symm h]
@[simp] theorem eq1_int_str {a : Int} {b : Str} : Wl.eq1 (.int a) (.str b) = false := rfl
@[simp] theorem eq1_str_none {a : Str} : Wl.eq1 (.str a) .none = false := rfl
@[simp] theorem eq1_str_bool {a : Str} {b : Bool} : Wl.eq1 (.str a) (.bool b) = false := rfl
@[simp] theorem eq1_str_int {a : Str} {b : Int} : Wl.eq1 (.str a) (.int b) = false := rfl
@[simp] theorem eq1_str_str {a : Str} {b : Str} : Wl.eq1 (.str a) (.str b) = decide (b = a) := by
  show (a == b) = decide (b = a)
  by_cases h : a = b
  · subst h; simp
  · simp [h, Ne.symm h]
theorem Rl.flat1 (r : Rl K N H h x d) : flatV x = flat1 d := by cases r <;> rfl
theorem Rl.eq1 {y : V} {e : PyData} (r : Rl K N H h x d) (q : Rl K N H h y e) : eqV x y = eq1 d e := by cases r <;> cases q <;> rfl
theorem Rls.flat1 : ∀ {ds : List PyData} {xs : List V}, Rls K N H h xs ds → xs.all flatV = ds.all Wl.flat1
  | [], _, r => by cases r; rfl
  | d :: ds, _, r => by cases r with | cons a b => rw [List.all_cons, List.all_cons, a.flat1, Rls.flat1 b]
theorem Rls.in1 (r : Rl K N H h x d) : ∀ {ds : List PyData} {xs : List V}, Rls K N H h xs ds → inV x xs = ds.any fun e => Wl.eq1 e d
  | [], _, q => by cases q; rfl
  | e :: ds, _, q => by
    cases q with
    | cons a b =>
      have ih := Rls.in1 r b
      unfold inV at ih ⊢
      rw [List.any_cons, List.any_cons, a.eq1 r, ih]
end
def in1 (d : PyData) (ds : List PyData) : Bool := ds.any fun e => eq1 e d
@[simp] theorem in1_nil {d : PyData} : Wl.in1 d [] = false := rfl
@[simp] theorem in1_cons {d e : PyData} {es : List PyData} : Wl.in1 d (e :: es) = (Wl.eq1 e d || Wl.in1 d es) := rfl
@[simp] theorem in1_strs {u : Str} {ss : List Str} : Wl.in1 (.str u) (ss.map PyData.str) = decide (u ∈ ss) := by
  induction ss with
  | nil => rfl
  | cons a l ih =>
    rw [List.map_cons, in1_cons, ih]
    simp
@[simp] theorem in1_ints {u : Int} {ss : List Int} : Wl.in1 (.int u) (ss.map PyData.int) = decide (u ∈ ss) := by
  induction ss with
  | nil => rfl
  | cons a l ih =>
    rw [List.map_cons, in1_cons, ih]
    simp
@[simp] theorem flat_strs' {ss : List Str} : (ss.map PyData.str).all Wl.flat1 = true := by simp
@[simp] def fIn (neg : Bool) (d e : PyData) (h : Lh) (P : Wv) : Prop := ∃ ds, qv h e = some ds ∧ flat1 d = true ∧ ds.all flat1 = true ∧ P (.bool (if neg then !in1 d ds else in1 d ds)) h
instance (neg : Bool) : R2W K (rIn K neg) (fIn neg) := ⟨fun S a c ⟨ds, e, f1, f2, p⟩ k => by
  obtain ⟨q, xs, rfl, s, rs⟩ := c.qv S e
  refine ⟨q, xs, rfl, s, by rw [a.flat1]; exact f1, by rw [rs.flat1]; exact f2, ?_⟩
  have e1 : inV _ xs = in1 _ ds := Rls.in1 a rs
  rw [e1]
  exact k.at S (.bl _) p⟩
/-! subscripts -/
theorem atI_rl {N : Addr → Prop} {H : Hp} {h : Lh} {xs : List V} {ds : List PyData} {d : PyData} {i : Int} (r : Rls K N H h xs ds) (ha : atI ds i = some d) : ∃ v, atI xs i = some v ∧ Rl K N H h v d := by
  unfold atI at ha ⊢
  rw [r.length]
  cases e : ixN ds.length i with
  | none => rw [e] at ha; cases ha
  | some j =>
    rw [e] at ha
    exact r.getD ha
@[simp] def fIxT (d e : PyData) (h : Lh) (P : Wv) : Prop := ∃ ds i x, tv d = some ds ∧ e = .int i ∧ atI ds i = some x ∧ P x h
instance : R2W K (rIxT K) fIxT := ⟨fun S a c ⟨ds, i, x, e1, e2, e3, p⟩ k => by
  subst e2
  obtain ⟨q, xs, rfl, t, rs⟩ := a.tv e1
  obtain ⟨v, hv, r⟩ := atI_rl rs e3
  exact ⟨q, xs, i, v, rfl, c.i, t, hv, k.at S r p⟩⟩
@[simp] def fIxL (d e : PyData) (h : Lh) (P : Wv) : Prop := ∃ ds i x, lv h d = some ds ∧ e = .int i ∧ atI ds i = some x ∧ P x h
instance : R2W K (rIxL K) fIxL := ⟨fun S a c ⟨ds, i, x, e1, e2, e3, p⟩ k => by
  subst e2
  obtain ⟨q, xs, rfl, t, rs⟩ := a.lv S e1
  obtain ⟨v, hv, r⟩ := atI_rl rs e3
  exact ⟨q, xs, i, v, rfl, c.i, t, hv, k.at S r p⟩⟩
@[simp] def fIxS (d e : PyData) (h : Lh) (P : Wv) : Prop := ∃ z i c, d = .str z ∧ e = .int i ∧ z.length ≤ 100000 ∧ atI z.cps.toList i = some c ∧ P (.str ⟨#[c]⟩) h
instance : R2W K rIxS fIxS := ⟨fun S a c ⟨z, i, x, e1, e2, e3, e4, p⟩ k => by
  subst e1; subst e2
  exact ⟨z, i, x, a.s, c.i, sz_of e3, e4, k.at S (.str _) p⟩⟩
/-! slices -/
@[simp] def wNo : WO := fun _ h P => P none h
@[simp] def wPart (a : WE) : WO := fun ρ h P => a ρ h fun d h1 => ∃ i, d = .int i ∧ P (some i) h1
instance : RO K XX tNoPart wNo := ⟨fun S E p k => k _ _ _ (Tr.refl _ _) S p⟩
instance {ta : TE} {a : WE} [A : RE K XX ta a] : RO K XX (tPart ta) (wPart a) := ⟨fun S E p k => A.run S E p fun v d H1 h1 t1 S1 r1 ⟨i, e, p1⟩ => by
  subst e; exact ⟨i, r1.i, k _ _ _ t1 S1 p1⟩⟩
theorem Rls.cut {N : Addr → Prop} {H : Hp} {h : Lh} {xs : List V} {ds : List PyData} (r : Rls K N H h xs ds) (lo hi : Option Int) : Rls K N H h (cutV xs lo hi) (Pd.cutD ds lo hi) := by
  unfold cutV Pd.cutD
  rw [r.length]
  exact (r.drop _).take _
@[simp] def wSlT (a : WE) (l u : WO) : WE := fun ρ h P => a ρ h fun d h1 => l ρ h1 fun lo h2 => u ρ h2 fun hi h3 => ∃ ds, tv d = some ds ∧ P (.tuple (Pd.cutD ds lo hi)) h3
instance {ta : TE} {tl th : TO} {a : WE} {l u : WO} [A : RE K XX ta a] [L : RO K XX tl l] [U : RO K XX th u] : RE K XX (tSl (rSlA K) ta tl th) (wSlT a l u) := ⟨fun S E p k =>
  A.run S E p fun v d H1 h1 t1 S1 r1 p1 => L.run S1 (E.tr t1) p1 fun lo H2 h2 t2 S2 p2 => U.run S2 (E.tr (t1.trans t2)) p2 fun hi H3 h3 t3 S3 ⟨ds, e, p3⟩ => by
    have r3 := r1.tr (t2.trans t3)
    have t := (t1.trans t2).trans t3
    obtain ⟨q, xs, rfl, tt, rs⟩ : ∃ a xs, v = .ref a ∧ Tu K _ H3 h3 a xs ∧ Rls K _ H3 h3 xs ds := (r3.tvt e).t
    refine ⟨q, xs, rfl, tt.sq, fun z => ?_, fun _ r hr => (k.tr t).tup S3 hr (rs.cut lo hi) p3⟩
    rw [rs.length] at z
    rw [sIx_whole z ds rfl] at p3
    exact (k.tr t).at S3 (.tup tt rs) p3⟩
@[simp] def wSlL (a : WE) (l u : WO) : WA := fun ρ h P => a ρ h fun d h1 => l ρ h1 fun lo h2 => u ρ h2 fun hi h3 => ∃ ds, lv h3 d = some ds ∧ P (Pd.cutD ds lo hi) h3
instance {ta : TE} {tl th : TO} {a : WE} {l u : WO} [A : RE K XX ta a] [L : RO K XX tl l] [U : RO K XX th u] : RN K XX (tSl (rSlL K) ta tl th) (wSlL a l u) := ⟨fun S E p k =>
  A.run S E p fun v d H1 h1 t1 S1 r1 p1 => L.run S1 (E.tr t1) p1 fun lo H2 h2 t2 S2 p2 => U.run S2 (E.tr (t1.trans t2)) p2 fun hi H3 h3 t3 S3 ⟨ds, e, p3⟩ => by
    obtain ⟨q, xs, rfl, tt, rs⟩ := (r1.tr (t2.trans t3)).lv S3 e
    exact ⟨q, xs, rfl, tt, fun r hr => (k.tr ((t1.trans t2).trans t3)).new S3 hr (rs.cut lo hi) p3⟩⟩
@[simp] def wSlS (a : WE) (l u : WO) : WE := fun ρ h P => a ρ h fun d h1 => l ρ h1 fun lo h2 => u ρ h2 fun hi h3 => ∃ z, d = .str z ∧ z.length ≤ 100000 ∧ P (.str (cutS z lo hi)) h3
instance {ta : TE} {tl th : TO} {a : WE} {l u : WO} [A : RE K XX ta a] [L : RO K XX tl l] [U : RO K XX th u] : RE K XX (tSl rSlS ta tl th) (wSlS a l u) := ⟨fun S E p k =>
  A.run S E p fun v d H1 h1 t1 S1 r1 p1 => L.run S1 (E.tr t1) p1 fun lo H2 h2 t2 S2 p2 => U.run S2 (E.tr (t1.trans t2)) p2 fun hi H3 h3 t3 S3 ⟨z, e, e2, p3⟩ => by
    subst e
    exact ⟨z, r1.s, sz_of e2, (k.tr ((t1.trans t2).trans t3)).at S3 (.str _) p3⟩⟩
/-! + and * of lists and tuples -/
@[simp] def fCatT (d e : PyData) (h : Lh) (P : Wv) : Prop := ∃ ds es, tv d = some ds ∧ tv e = some es ∧ ds.length + es.length ≤ 100000 ∧ P (.tuple (ds ++ es)) h
instance : R2W K (rCatA K) fCatT := ⟨fun {XX N H h x y d e P Q} S a c ⟨ds, es, e1, e2, z, p⟩ k => by
  have T : ∀ {v : V} {d : PyData} {ds : List PyData}, Rl K N H h v d → tv d = some ds → ∃ a xs, v = .ref a ∧ Tu K N H h a xs ∧ Rls K N H h xs ds := fun r e => (r.tvt e).t
  obtain ⟨q, xs, rfl, t1, r1⟩ := T a e1
  obtain ⟨q', xs', rfl, t2, r2⟩ := T c e2
  refine ⟨q, q', xs, xs', rfl, rfl, t1.sq, t2.sq, sz_of (by rw [r1.length, r2.length]; exact z), fun w => ?_, fun _ w => ?_, fun _ _ r hr => k.tup S hr (r1.append r2) p⟩
  · subst w; cases r1; exact k.at S (.tup t2 r2) p
  · subst w; cases r2; rw [List.append_nil] at p; exact k.at S (.tup t1 r1) p⟩
@[simp] def fCat (d e : PyData) (h : Lh) (P : List PyData → Lh → Prop) : Prop := ∃ ds es, isSc d = false ∧ isSc e = false ∧ lv h d = some ds ∧ lv h e = some es ∧ ds.length + es.length ≤ 100000 ∧ P (ds ++ es) h
instance : R2N K rCat fCat := ⟨fun S a c ⟨ds, es, c1, c2, e1, e2, z, p⟩ k => by
  obtain ⟨q, xs, rfl, t1, r1⟩ := a.lvo S e1 c1
  obtain ⟨q', xs', rfl, t2, r2⟩ := c.lvo S e2 c2
  exact ⟨q, q', xs, xs', rfl, rfl, t1, t2, sz_of (by rw [r1.length, r2.length]; exact z), fun r hr => k.new S hr (r1.append r2) p⟩⟩
end
end Wl
set_option Elab.async false
set_option linter.all false
set_option maxRecDepth 100000
set_option maxHeartbeats 2000000
/-! Wc: tests, calls, statements, loops over the plain layer. -/
namespace Wl
open PySem PySem.Spec PyProof.Rows L2 Evl Pd
def wCond (b : Bool) (A B : Prop) : Prop := (b = true → A) ∧ (b = false → B)
@[simp] theorem wCond_t {A B : Prop} : wCond true A B = A := by simp [wCond]
@[simp] theorem wCond_f {A B : Prop} : wCond false A B = B := by simp [wCond]
@[simp] theorem wCond_same {b : Bool} {A : Prop} : wCond b A A = A := by cases b <;> simp
@[simp] theorem wCond_not {b : Bool} {A B : Prop} : wCond (!b) A B = wCond b B A := by cases b <;> simp
@[simp] theorem wCond_or {b c : Bool} {A B : Prop} : wCond b A (wCond c A B) = wCond (b || c) A B := by cases b <;> simp
@[simp] theorem wCond_and {b c : Bool} {A B : Prop} : wCond b (wCond c A B) B = wCond (b && c) A B := by cases b <;> simp
@[simp] theorem wCond_andP {b c : Bool} {P : Wv} {h : Lh} : wCond b (P (.bool c) h) (P (.bool false) h) = P (.bool (b && c)) h := by cases b <;> simp
@[simp] theorem wCond_orP {b c : Bool} {P : Wv} {h : Lh} : wCond b (P (.bool true) h) (P (.bool c) h) = P (.bool (b || c)) h := by cases b <;> simp
theorem wCond.i {b : Bool} {A B : Prop} (a : b = true → A) (c : b = false → B) : wCond b A B := ⟨a, c⟩
theorem wCond.p {p : Prop} [Decidable p] {A B : Prop} (a : p → A) (c : ¬ p → B) : wCond (decide p) A B := ⟨fun z => a (of_decide_eq_true z), fun z => c (of_decide_eq_false z)⟩
theorem wCond.t {A B : Prop} (a : A) : wCond true A B := ⟨fun _ => a, fun z => (by cases z)⟩
theorem wCond.f {A B : Prop} (a : B) : wCond false A B := ⟨fun z => (by cases z), fun _ => a⟩
theorem wCond.on {b : Bool} {A B : Prop} {A' B' : Prop} (c : wCond b A B) (f : A → A') (g : B → B') : if b = true then A' else B' := by
  cases b with
  | true => rw [if_pos rfl]; exact f (c.1 rfl)
  | false => rw [if_neg (by decide)]; exact g (c.2 rfl)
section
variable {K : PySem.W.Frag} {XX : XP}
def asB : PyData → (Bool → Prop) → Prop
  | .bool b, k => k b
  | _, _ => False
@[simp] theorem asB_bool {b : Bool} {k : Bool → Prop} : asB (.bool b) k = k b := rfl
theorem asB_ex {d : PyData} {k : Bool → Prop} (h : asB d k) : ∃ b, d = .bool b ∧ k b := by
  cases d <;> first | exact h.elim | exact ⟨_, rfl, h⟩
@[simp] def wTst (a : WE) : WT := fun ρ h P => a ρ h fun d h1 => asB d fun b => P b h1
instance {ta : TE} {a : WE} [A : RE K XX ta a] : RT K XX (tTest ta) (wTst a) := ⟨fun S E p k => A.run S E p fun v d H1 h1 t1 S1 r1 z => by
  obtain ⟨b, e, p1⟩ := asB_ex z
  subst e; exact ⟨b, r1.b, k _ _ _ t1 S1 p1⟩⟩
instance {ta : TE} {a : WE} [A : RE K XX ta a] : RT K XX (tB ta) (wTst a) := ⟨fun S E p k => A.run S E p fun v d H1 h1 t1 S1 r1 z => by
  obtain ⟨b, e, p1⟩ := asB_ex z
  subst e; exact ⟨b, r1.b, k _ _ _ t1 S1 p1⟩⟩
@[simp] def wAnd (a b : WT) : WT := fun ρ h P => a ρ h fun c h1 => wCond c (b ρ h1 P) (P false h1)
@[simp] def wOr (a b : WT) : WT := fun ρ h P => a ρ h fun c h1 => wCond c (P true h1) (b ρ h1 P)
@[simp] def wNot (a : WT) : WT := fun ρ h P => a ρ h fun c h1 => P (!c) h1
instance {ta tb : TT} {a b : WT} [A : RT K XX ta a] [B : RT K XX tb b] : RT K XX (tAnd ta tb) (wAnd a b) := ⟨fun S E p k => A.run S E p fun c H1 h1 t1 S1 p1 =>
  p1.on (fun q => B.run S1 (E.tr t1) q (k.tr t1)) fun q => k _ _ _ t1 S1 q⟩
instance {ta tb : TT} {a b : WT} [A : RT K XX ta a] [B : RT K XX tb b] : RT K XX (tOr ta tb) (wOr a b) := ⟨fun S E p k => A.run S E p fun c H1 h1 t1 S1 p1 =>
  p1.on (fun q => k _ _ _ t1 S1 q) fun q => B.run S1 (E.tr t1) q (k.tr t1)⟩
instance {ta : TT} {a : WT} [A : RT K XX ta a] : RT K XX (tNot ta) (wNot a) := ⟨fun S E p k => A.run S E p fun c H1 h1 t1 S1 p1 => k _ _ _ t1 S1 p1⟩
@[simp] def wYes : WT := fun _ h P => P true h
instance : RT K XX tYes wYes := ⟨fun S E p k => k _ _ _ (Tr.refl _ _) S p⟩
@[simp] def wAndV (a b : WE) : WE := fun ρ h P => a ρ h fun d h1 => asB d fun c => wCond c (b ρ h1 P) (P (.bool false) h1)
@[simp] def wOrV (a b : WE) : WE := fun ρ h P => a ρ h fun d h1 => asB d fun c => wCond c (P (.bool true) h1) (b ρ h1 P)
@[simp] def wNotV (a : WE) : WE := fun ρ h P => a ρ h fun d h1 => asB d fun c => P (.bool (!c)) h1
instance {ta tb : TE} {a b : WE} [A : RE K XX ta a] [B : RE K XX tb b] : RE K XX (tAndV ta tb) (wAndV a b) := ⟨fun S E p k => A.run S E p fun v d H1 h1 t1 S1 r1 z => by
  obtain ⟨c, e, p1⟩ := asB_ex z
  subst e; exact ⟨c, r1.b, p1.on (fun q => B.run S1 (E.tr t1) q (k.tr t1)) fun q => (k.tr t1).at S1 (.bl _) q⟩⟩
instance {ta tb : TE} {a b : WE} [A : RE K XX ta a] [B : RE K XX tb b] : RE K XX (tOrV ta tb) (wOrV a b) := ⟨fun S E p k => A.run S E p fun v d H1 h1 t1 S1 r1 z => by
  obtain ⟨c, e, p1⟩ := asB_ex z
  subst e; exact ⟨c, r1.b, p1.on (fun q => (k.tr t1).at S1 (.bl _) q) fun q => B.run S1 (E.tr t1) q (k.tr t1)⟩⟩
instance {ta : TE} {a : WE} [A : RE K XX ta a] : RE K XX (tNotV ta) (wNotV a) := ⟨fun S E p k => A.run S E p fun v d H1 h1 t1 S1 r1 z => by
  obtain ⟨c, e, p1⟩ := asB_ex z
  subst e; exact ⟨c, r1.b, (k.tr t1).at S1 (.bl _) p1⟩⟩
@[simp] def wIf (t : WT) (a b : WE) : WE := fun ρ h P => t ρ h fun c h1 => wCond c (a ρ h1 P) (b ρ h1 P)
instance {tt : TT} {ta tb : TE} {t : WT} {a b : WE} [T : RT K XX tt t] [A : RE K XX ta a] [B : RE K XX tb b] : RE K XX (tIf tt ta tb) (wIf t a b) := ⟨fun S E p k => T.run S E p fun c H1 h1 t1 S1 p1 =>
  p1.on (fun q => A.run S1 (E.tr t1) q (k.tr t1)) fun q => B.run S1 (E.tr t1) q (k.tr t1)⟩
@[simp] def wChain (g g' : Int → Int → Bool) (a b c : WE) : WE := fun ρ h P => a ρ h fun d h1 => b ρ h1 fun e h2 => ∃ i j, d = .int i ∧ e = .int j ∧ wCond (g i j) (c ρ h2 fun f h3 => ∃ k, f = .int k ∧ P (.bool (g' j k)) h3) (P (.bool false) h2)
instance (g g' : Int → Int → Bool) {ta tb tc : TE} {a b c : WE} [A : RE K XX ta a] [B : RE K XX tb b] [C : RE K XX tc c] : RE K XX (tChain (rI0 fun i j => .bl (g i j)) (rI0 fun i j => .bl (g' i j)) ta tb tc) (wChain g g' a b c) := ⟨fun S E p k =>
  A.run S E p fun v d H1 h1 t1 S1 r1 p1 => B.run S1 (E.tr t1) p1 fun w e H2 h2 t2 S2 r2 ⟨i, j, e1, e2, p2⟩ => by
    subst e1; subst e2
    refine ⟨i, j, r1.i, r2.i, g i j, rfl, p2.on (fun q => C.run S2 (E.tr (t1.trans t2)) q fun x f H3 h3 t3 S3 r3 ⟨n, e3, p3⟩ => ?_) fun q => (k.tr (t1.trans t2)).at S2 (.bl _) q⟩
    subst e3
    exact ⟨j, n, r2.i, r3.i, (k.tr ((t1.trans t2).trans t3)).at S3 (.bl _) p3⟩⟩
/-! ### built-ins -/
@[simp] def wCB (f : List PyData → Lh → Wv → Prop) (a : WA) : WE := fun ρ h P => a ρ h fun ds h1 => f ds h1 P
instance {r : List V → Hp → VK → Prop} {f : List PyData → Lh → Wv → Prop} {ta : TA} {a : WA} [A : RA K XX ta a] [R : RCW K r f] : RE K XX (tCB r ta) (wCB f a) := ⟨fun S E p k =>
  A.run S E p fun vs ds H1 h1 t1 S1 r1 p1 => R.run S1 r1 p1 (k.tr t1)⟩
@[simp] def wCN (f : List PyData → Lh → (List PyData → Lh → Prop) → Prop) (a : WA) : WA := fun ρ h P => a ρ h fun ds h1 => f ds h1 P
instance {r : List V → Hp → VK → Prop} {f : List PyData → Lh → (List PyData → Lh → Prop) → Prop} {ta : TA} {a : WA} [A : RA K XX ta a] [R : RCN K r f] : RN K XX (tCB r ta) (wCN f a) := ⟨fun S E p k =>
  A.run S E p fun vs ds H1 h1 t1 S1 r1 p1 => R.run S1 r1 p1 (k.tr t1)⟩
/-- the kind of a value -/
def tyH (h : Lh) : PyData → String
  | .dict [(.int i, .none)] => match h i.toNat with
    | some (.lst _) => "list"
    | some (.dK _) => "dict"
    | some (.dT _) => "dict"
    | _ => "?"
  | .none => "NoneType"
  | .bool _ => "bool"
  | .int _ => "int"
  | .str _ => "str"
  | .list _ => "list"
  | .tuple _ => "tuple"
  | .dict [(.none, .tuple _)] => "list"
  | .dict [(.bool true, .tuple _)] => "tuple"
  | .dict _ => "?"
@[simp] theorem tyH_none {h : Lh} : tyH h .none = "NoneType" := rfl
@[simp] theorem tyH_bool {h : Lh} {b : Bool} : tyH h (.bool b) = "bool" := rfl
@[simp] theorem tyH_int {h : Lh} {b : Int} : tyH h (.int b) = "int" := rfl
@[simp] theorem tyH_str {h : Lh} {b : Str} : tyH h (.str b) = "str" := rfl
@[simp] theorem tyH_list {h : Lh} {b : List PyData} : tyH h (.list b) = "list" := rfl
@[simp] theorem tyH_tuple {h : Lh} {b : List PyData} : tyH h (.tuple b) = "tuple" := rfl
@[simp] theorem tyH_bt {h : Lh} {b : List PyData} : tyH h (.dict [(.bool true, .tuple b)]) = "tuple" := rfl
@[simp] theorem tyH_rf {h : Lh} {p : Addr} : tyH h (.dict [(.int ((p : Nat) : Int), .none)]) = match h p with | some (.lst _) => "list" | some (.dK _) => "dict" | some (.dT _) => "dict" | _ => "?" := by simp only [tyH, Int.toNat_natCast]
theorem Rl.ty {N : Addr → Prop} {H : Hp} {h : Lh} {v : V} {d : PyData} (S : Sx K XX N H h) (r : Rl K N H h v d) (e : tyH h d ≠ "?") : TyX K H v (.type (tyH h d)) := by
  cases r with
  | non => exact .base .non
  | bl b => exact .base (.bl b)
  | int i => exact .base (.int i)
  | str s => exact .base (.str s)
  | lst h1 _ => exact .base (.lst h1.1)
  | tup h1 _ =>
    rcases h1 with ⟨h1 | ⟨o, h1⟩, _⟩ | ⟨o, its, n, e1, e2, _⟩
    · exact .base (.tup h1)
    · exact .fTuple h1
    · exact .kTuple e1 e2
  | rf a =>
    simp only [tyH, Int.toNat_natCast] at e ⊢
    cases q : h a with
    | none => rw [q] at e; exact absurd rfl e
    | some o =>
      obtain ⟨n, u, z, k⟩ := S.at_ a o q
      cases k with
      | lst k => exact .base (.lst z)
      | dK k => exact .base (.dK z)
      | dT k => exact .base (.dT z)
      | ins k => rw [q] at e; exact absurd rfl e
      | set w1 a1 k => rw [q] at e; exact absurd rfl e
      | lk k => rw [q] at e; exact absurd rfl e
      | lkT k => rw [q] at e; exact absurd rfl e
  | scr ns c =>
    rcases c with ⟨c | ⟨o, c⟩, _⟩ | ⟨o, its, n, e1, e2, _⟩
    · exact .base (.lst c)
    · exact .base (.frz c)
    · exact .kList e1 e2
  | btp ns o c _ _ _ => exact .fTuple c
@[simp] def wIsi (T : String) (a : WE) : WE := fun ρ h P => a ρ h fun d h1 => tyH h1 d ≠ "?" ∧ onB (kitB (tyH h1 d) T) fun b => P (.bool b) h1
instance (priority := high) {ta : TE} {a : WE} {T : String} [A : RE K XX ta a] : RE K XX (tCB (rIsi K) (tCons ta (tCons (tC (.ty T)) tNil))) (wIsi T a) := ⟨fun S E p k =>
  A.run S E p fun v d H1 h1 t1 S1 r1 ⟨e0, z⟩ => by
  obtain ⟨b, e, p1⟩ := onB_ex z
  exact ⟨v, .ty T, .type (tyH h1 d), .type T, b, rfl, .ty T, r1.ty S1 e0, kit_ty e, (k.tr t1).at S1 (.bl _) p1⟩⟩
@[simp] def fLenS (ds : List PyData) (h : Lh) (P : Wv) : Prop := ∃ z, ds = [.str z] ∧ z.length ≤ 100000 ∧ P (.int z.length) h
instance : RCW K (fun xs H Q => ∃ z, xs = [.str z] ∧ z.length ≤ sizeLine ∧ Q (.int z.length) H) fLenS := ⟨fun S r ⟨z, e, e2, p⟩ k => by
  subst e; obtain ⟨v, rfl, i⟩ := r.one; rw [i.s]; exact ⟨z, rfl, sz_of e2, k.at S (.int _) p⟩⟩
@[simp] def fLen (ds : List PyData) (h : Lh) (P : Wv) : Prop := ∃ d es, ds = [d] ∧ qv h d = some es ∧ P (.int (es.length : Nat)) h
instance : RCW K (rLenS K) fLen := ⟨fun S r ⟨d, es, e, e2, p⟩ k => by
  subst e; obtain ⟨v, rfl, i⟩ := r.one
  obtain ⟨a, xs, rfl, t, rs⟩ := i.qv S e2
  exact ⟨a, xs, rfl, t, by rw [rs.length]; exact k.at S (.int _) p⟩⟩
@[simp] def boolL : List PyData → Option (List Bool)
  | [] => some []
  | .bool b :: ds => (boolL ds).map (b :: ·)
  | _ => none
theorem boolL_eq : ∀ {ds : List PyData} {bs : List Bool}, boolL ds = some bs → ds = bs.map .bool
  | [], _, h => by cases h; rfl
  | .bool b :: ds, bs, h => by
    unfold boolL at h
    obtain ⟨cs, hc, rfl⟩ := Option.map_eq_some_iff.mp h
    rw [boolL_eq hc]; rfl
  | .none :: _, _, h => by cases h
  | .int _ :: _, _, h => by cases h
  | .str _ :: _, _, h => by cases h
  | .list _ :: _, _, h => by cases h
  | .tuple _ :: _, _, h => by cases h
  | .dict _ :: _, _, h => by cases h
@[simp] theorem boolL_map (bs : List Bool) : boolL (bs.map .bool) = some bs := by
  induction bs with
  | nil => rfl
  | cons b bs ih => simp [boolL, ih]
theorem boolL_mapF {α : Type} (l : List α) (f : α → Bool) : boolL (l.map fun a => PyData.bool (f a)) = some (l.map f) := by
  have := boolL_map (l.map f)
  rw [List.map_map] at this
  exact this
@[simp] def fAll (ds : List PyData) (h : Lh) (P : Wv) : Prop := ∃ d es bs, ds = [d] ∧ lv h d = some es ∧ boolL es = some bs ∧ P (.bool (bs.all id)) h
@[simp] def fAny (ds : List PyData) (h : Lh) (P : Wv) : Prop := ∃ d es bs, ds = [d] ∧ lv h d = some es ∧ boolL es = some bs ∧ P (.bool (bs.any id)) h
instance : RCW K (L2.rAll K) fAll := ⟨fun S r ⟨d, es, bs, e, e2, e3, p⟩ k => by
  subst e; obtain ⟨v, rfl, i⟩ := r.one
  obtain ⟨a, xs, rfl, t, rs⟩ := i.lv S e2
  rw [boolL_eq e3] at rs
  have := rs.bls; subst this
  exact ⟨a, bs, rfl, t, k.at S (.bl _) p⟩⟩
instance : RCW K (L2.rAny K) fAny := ⟨fun S r ⟨d, es, bs, e, e2, e3, p⟩ k => by
  subst e; obtain ⟨v, rfl, i⟩ := r.one
  obtain ⟨a, xs, rfl, t, rs⟩ := i.lv S e2
  rw [boolL_eq e3] at rs
  have := rs.bls; subst this
  exact ⟨a, bs, rfl, t, k.at S (.bl _) p⟩⟩
@[simp] def fTupOf (ds : List PyData) (h : Lh) (P : Wv) : Prop := ∃ d es, ds = [d] ∧ qv h d = some es ∧ P (.tuple es) h
instance : RCW K (rTupOf K) fTupOf := ⟨fun {XX N H h xs ds P Q} S r ⟨d, es, e, e2, p⟩ k => by
  subst e; obtain ⟨v, rfl, i⟩ := r.one
  unfold qv at e2
  cases q : tv d with
  | some es' =>
    rw [q] at e2; cases e2
    obtain ⟨a, xs, rfl, t, rs⟩ := (i.tvt q).t
    exact ⟨a, xs, rfl, .inr ⟨t.sq, k.at S (.tup t rs) p⟩⟩
  | none =>
    rw [q] at e2
    obtain ⟨a, xs, rfl, t, rs⟩ := i.lv S e2
    exact ⟨a, xs, rfl, .inl ⟨t, fun l hl => k.tup S hl rs p⟩⟩⟩
@[simp] def fLstOf (ds : List PyData) (h : Lh) (P : List PyData → Lh → Prop) : Prop := ∃ d es, ds = [d] ∧ qv h d = some es ∧ P es h
instance : RCN K (rLstOf K) fLstOf := ⟨fun S r ⟨d, es, e, e2, p⟩ k => by
  subst e; obtain ⟨v, rfl, i⟩ := r.one
  obtain ⟨a, xs, rfl, t, rs⟩ := i.qv S e2
  exact ⟨a, xs, rfl, t, fun l hl => k.new S hl rs p⟩⟩
@[simp] def fAbs (ds : List PyData) (h : Lh) (P : Wv) : Prop := ∃ i, ds = [.int i] ∧ P (.int (if i < 0 then -i else i)) h
instance : RCW K (fun xs H Q => ∃ i, xs = [.int i] ∧ Q (.int (if i < 0 then -i else i)) H) fAbs := ⟨fun S r ⟨i, e, p⟩ k => by
  subst e; obtain ⟨v, rfl, iv⟩ := r.one; rw [iv.i]; exact ⟨i, rfl, k.at S (.int _) p⟩⟩
@[simp] def fMax2 (ds : List PyData) (h : Lh) (P : Wv) : Prop := ∃ i j, ds = [.int i, .int j] ∧ P (.int (if j > i then j else i)) h
instance : RCW K (fun xs H Q => ∃ i j, xs = [.int i, .int j] ∧ Q (.int (if j > i then j else i)) H) fMax2 := ⟨fun S r ⟨i, j, e, p⟩ k => by
  subst e; obtain ⟨v, w, rfl, iv, iw⟩ := r.two; rw [iv.i, iw.i]; exact ⟨i, j, rfl, k.at S (.int _) p⟩⟩
@[simp] def fNeg (d : PyData) (h : Lh) (P : Wv) : Prop := ∃ i, d = .int i ∧ P (.int (-i)) h
instance : R1W K (rU fun i => .int (-i)) fNeg := ⟨fun S r ⟨i, e, p⟩ k => by
  subst e; exact ⟨i, r.i, k.at S (.int _) p⟩⟩
@[simp] def fInt1 (ds : List PyData) (h : Lh) (P : Wv) : Prop := (∃ i, ds = [.int i] ∧ P (.int i) h) ∨ ∃ b, ds = [.bool b] ∧ P (.int (if b then 1 else 0)) h
instance : RCW K (fun xs H Q => (∃ i, xs = [.int i] ∧ Q (.int i) H) ∨ ∃ k, xs = [.bl k] ∧ Q (.int (if k then 1 else 0)) H) fInt1 := ⟨fun S r p k => by
  rcases p with ⟨i, e, p⟩ | ⟨b, e, p⟩
  · subst e; obtain ⟨v, rfl, iv⟩ := r.one; rw [iv.i]; exact .inl ⟨i, rfl, k.at S (.int _) p⟩
  · subst e; obtain ⟨v, rfl, iv⟩ := r.one; rw [iv.b]; exact .inr ⟨b, rfl, k.at S (.int _) p⟩⟩
/-! ### own defs -/
/-- a def's promise; exceptions: the class and the fields -/
def SpX (K : PySem.W.Frag) (D : List PyData → Lh → Wv → (Addr → List (Str × PyData) → Lh → Prop) → Prop) : Sp := fun vs H Q E => ∃ (N : Addr → Prop) (h : Lh) (ds : List PyData) (P : Wv) (X : Addr → List (Str × PyData) → Lh → Prop),
  Sx K ⟨fun _ => E, fun _ => X⟩ N H h ∧ Rls K N H h vs ds ∧ D ds h P X ∧ Ko K ⟨fun _ => E, fun _ => X⟩ N H h P Q
abbrev DX := List PyData → Lh → Wv → (Addr → List (Str × PyData) → Lh → Prop) → Prop
/-- .. that lets none out -/
abbrev SpW (K : PySem.W.Frag) (D : List PyData → Lh → Wv → Prop) : Sp := SpX K fun ds h P _ => D ds h P
theorem SpX.len {D : DX} {n : Nat} (f : ∀ ds h P X, D ds h P X → ds.length = n) : ∀ vs H Q E, SpX K D vs H Q E → vs.length = n := fun vs H Q E ⟨_, _, _, _, _, _, r, d, _⟩ => by rw [r.length]; exact f _ _ _ _ d
theorem SpW.len {D : List PyData → Lh → Wv → Prop} {n : Nat} (f : ∀ ds h P, D ds h P → ds.length = n) : ∀ vs H Q E, SpW K D vs H Q E → vs.length = n := SpX.len fun ds h P _ => f ds h P
section
variable {N : Addr → Prop} {H H' : Hp} {h h' : Lh}
/-- a call: in the callee other exceptions may go elsewhere -/
theorem Ko.in {E : XK} {X : Addr → List (Str × PyData) → Lh → Prop} {P : Wv} {Q : VK} (S : Sx K XX N H h) (k : Ko K XX N H h P Q) : Ko K ⟨fun _ => E, fun _ => X⟩ N H h P Q := fun v d H' h' t S' r p => k v d H' h' t (S.to t S'.toSim) r p
theorem Sx.noX {E : XK} (S : Sim K N H h) : Sx K ⟨fun _ => E, fun _ _ _ _ => False⟩ N H h := ⟨S, fun _ _ _ _ _ _ _ _ _ _ _ z => z.elim⟩
theorem Sx.call {σ : L2.St} {ρ : Ev'} {E0 : L2.St → XK} {X0 : Ev' → Addr → List (Str × PyData) → Lh → Prop} (S : Sx K ⟨E0, X0⟩ N H h) (e : En K N H h σ ρ) : Sx K ⟨fun _ => E0 σ, fun _ => X0 ρ⟩ N H h := ⟨S.toSim, fun _ _ C d fs H' h' t S' _ x p => S.x σ ρ C d fs H' h' t S' (e.tr t) x p⟩
end
@[simp] def wCall (D : DX) (X : Ev' → Addr → List (Str × PyData) → Lh → Prop) (a : WA) : WE := fun ρ h P => a ρ h fun ds h1 => D ds h1 P (X ρ)
/-- of a def that lets none out -/
@[simp] def wCallW (D : List PyData → Lh → Wv → Prop) (a : WA) : WE := fun ρ h P => a ρ h fun ds h1 => D ds h1 P
instance (priority := high) {D : List PyData → Lh → Wv → Prop} {E : XK} {ta : TA} {a : WA} [A : RA K XX ta a] : RE K XX (tCall (SpX K fun ds h P _ => D ds h P) [] E ta) (wCallW D a) := ⟨fun {N σ H ρ h P Q} S E0 p k =>
  A.run S E0 p fun vs ds H1 h1 t1 S1 r1 p1 => ⟨N, h1, ds, P, _, Sx.noX S1.toSim, by rw [List.append_nil]; exact r1, p1, (k.tr t1).in S1⟩⟩
instance (priority := high) {D : List PyData → Lh → Wv → Prop} {E : L2.St → XK} {ta : TA} {a : WA} [A : RA K XX ta a] : RE K XX (tCallS (SpX K fun ds h P _ => D ds h P) E ta) (wCallW D a) := ⟨fun {N σ H ρ h P Q} S E0 p k =>
  A.run S E0 p fun vs ds H1 h1 t1 S1 r1 p1 => ⟨N, h1, ds, P, _, Sx.noX S1.toSim, r1, p1, (k.tr t1).in S1⟩⟩
instance {D : DX} {E : XK} {X : Ev' → Addr → List (Str × PyData) → Lh → Prop} {ta : TA} {a : WA} [A : RA K ⟨fun _ => E, X⟩ ta a] : RE K ⟨fun _ => E, X⟩ (tCall (SpX K D) [] E ta) (wCall D X a) := ⟨fun {N σ H ρ h P Q} S E0 p k =>
  A.run S E0 p fun vs ds H1 h1 t1 S1 r1 p1 => ⟨N, h1, ds, P, X ρ, S1.call (E0.tr t1), by rw [List.append_nil]; exact r1, p1, (k.tr t1).in S1⟩⟩
instance {D : DX} {E : L2.St → XK} {X : Ev' → Addr → List (Str × PyData) → Lh → Prop} {ta : TA} {a : WA} [A : RA K ⟨E, X⟩ ta a] : RE K ⟨E, X⟩ (tCallS (SpX K D) E ta) (wCall D X a) := ⟨fun {N σ H ρ h P Q} S E0 p k =>
  A.run S E0 p fun vs ds H1 h1 t1 S1 r1 p1 => ⟨N, h1, ds, P, X ρ, S1.call (E0.tr t1), r1, p1, (k.tr t1).in S1⟩⟩
@[simp] def wCallN (n m : Nat) (D : DX) (X : Ev' → Addr → List (Str × PyData) → Lh → Prop) (a b : WA) : WE := fun ρ h P => a ρ h fun ds h1 => b ρ h1 fun es h2 => ds.length = n ∧ es.length = m ∧ D (ds ++ es) h2 P (X ρ)
@[simp] def wCallNW (n m : Nat) (D : List PyData → Lh → Wv → Prop) (a b : WA) : WE := fun ρ h P => a ρ h fun ds h1 => b ρ h1 fun es h2 => ds.length = n ∧ es.length = m ∧ D (ds ++ es) h2 P
instance (priority := high) {D : List PyData → Lh → Wv → Prop} {E : XK} {ta tb : TA} {a b : WA} {n m : Nat} [A : RA K XX ta a] [B : RA K XX tb b] : RE K XX (tCallN n m (SpX K fun ds h P _ => D ds h P) (fun vs zs => vs ++ zs) E ta tb) (wCallNW n m D a b) := ⟨fun {N σ H ρ h P Q} S E0 p k =>
  A.run S E0 p fun vs ds H1 h1 t1 S1 r1 p1 => B.run S1 (E0.tr t1) p1 fun ws es H2 h2 t2 S2 r2 ⟨l1, l2, p2⟩ => ⟨by rw [r1.length]; exact l1, by rw [r2.length]; exact l2, N, h2, ds ++ es, P, _, Sx.noX S2.toSim, (r1.tr t2).append r2, p2, (k.tr (t1.trans t2)).in S2⟩⟩
instance (priority := high) {D : List PyData → Lh → Wv → Prop} {E : L2.St → XK} {ta tb : TA} {a b : WA} {n m : Nat} [A : RA K XX ta a] [B : RA K XX tb b] : RE K XX (tCallNS n m (SpX K fun ds h P _ => D ds h P) E ta tb) (wCallNW n m D a b) := ⟨fun {N σ H ρ h P Q} S E0 p k =>
  A.run S E0 p fun vs ds H1 h1 t1 S1 r1 p1 => B.run S1 (E0.tr t1) p1 fun ws es H2 h2 t2 S2 r2 ⟨l1, l2, p2⟩ => ⟨by rw [r1.length]; exact l1, by rw [r2.length]; exact l2, N, h2, ds ++ es, P, _, Sx.noX S2.toSim, (r1.tr t2).append r2, p2, (k.tr (t1.trans t2)).in S2⟩⟩
instance {D : DX} {E : XK} {X : Ev' → Addr → List (Str × PyData) → Lh → Prop} {ta tb : TA} {a b : WA} {n m : Nat} [A : RA K ⟨fun _ => E, X⟩ ta a] [B : RA K ⟨fun _ => E, X⟩ tb b] : RE K ⟨fun _ => E, X⟩ (tCallN n m (SpX K D) (fun vs zs => vs ++ zs) E ta tb) (wCallN n m D X a b) := ⟨fun {N σ H ρ h P Q} S E0 p k =>
  A.run S E0 p fun vs ds H1 h1 t1 S1 r1 p1 => B.run S1 (E0.tr t1) p1 fun ws es H2 h2 t2 S2 r2 ⟨l1, l2, p2⟩ => ⟨by rw [r1.length]; exact l1, by rw [r2.length]; exact l2, N, h2, ds ++ es, P, X ρ, S2.call (E0.tr (t1.trans t2)), (r1.tr t2).append r2, p2, (k.tr (t1.trans t2)).in S2⟩⟩
instance {D : DX} {E : L2.St → XK} {X : Ev' → Addr → List (Str × PyData) → Lh → Prop} {ta tb : TA} {a b : WA} {n m : Nat} [A : RA K ⟨E, X⟩ ta a] [B : RA K ⟨E, X⟩ tb b] : RE K ⟨E, X⟩ (tCallNS n m (SpX K D) E ta tb) (wCallN n m D X a b) := ⟨fun {N σ H ρ h P Q} S E0 p k =>
  A.run S E0 p fun vs ds H1 h1 t1 S1 r1 p1 => B.run S1 (E0.tr t1) p1 fun ws es H2 h2 t2 S2 r2 ⟨l1, l2, p2⟩ => ⟨by rw [r1.length]; exact l1, by rw [r2.length]; exact l2, N, h2, ds ++ es, P, X ρ, S2.call (E0.tr (t1.trans t2)), (r1.tr t2).append r2, p2, (k.tr (t1.trans t2)).in S2⟩⟩
/-- an attribute -/
def lkD (f : Str) (fs : List (Str × PyData)) : Option PyData := fs.lookup f
@[simp] theorem lkD_nil {f : Str} : lkD f [] = none := rfl
@[simp] theorem lkD_cons {f g : Str} {v : PyData} {r : List (Str × PyData)} : lkD f ((g, v) :: r) = if f = g then some v else lkD f r := by
  unfold lkD
  by_cases h : f = g
  · subst h; simp [List.lookup]
  · rw [if_neg h]
    have : (f == g) = false := beq_eq_false_iff_ne.mpr h
    simp only [List.lookup, this]
@[simp] def wMeth (C : Addr) (m : Str) (D : DX) (X : Ev' → Addr → List (Str × PyData) → Lh → Prop) (a : WE) (b : WA) : WE := fun ρ h P => a ρ h fun d h1 => ∃ p fs, d = rf p ∧ h1 p = some (.ins C fs) ∧ lkD m fs = none ∧ b ρ h1 fun ds h2 => D (d :: ds) h2 P (X ρ)
@[simp] def wMethW (C : Addr) (m : Str) (D : List PyData → Lh → Wv → Prop) (a : WE) (b : WA) : WE := fun ρ h P => a ρ h fun d h1 => ∃ p fs, d = rf p ∧ h1 p = some (.ins C fs) ∧ lkD m fs = none ∧ b ρ h1 fun ds h2 => D (d :: ds) h2 P
instance (priority := high) {D : List PyData → Lh → Wv → Prop} {C : Addr} {m : Str} {E : XK} {ta : TE} {tb : TA} {a : WE} {b : WA} [A : RE K XX ta a] [B : RA K XX tb b] : RE K XX (tMeth C m (SpX K fun ds h P _ => D ds h P) [] E ta tb) (wMethW C m D a b) := ⟨fun {N σ H ρ h P Q} S E0 p k =>
  A.run S E0 p fun v d H1 h1 t1 S1 r1 ⟨q, fs, e, e2, e3, p1⟩ => by
    obtain ⟨dx, xs, z, pr⟩ := Rl.insH S1 e2
    have ev := r1.r (a := q) (by rw [e]; exact asR_rf q)
    refine ⟨q, dx, xs, ev, z, (Paired.lookup pr).1 e3, B.run S1 (E0.tr t1) p1 fun vs ds H2 h2 t2 S2 r2 p2 => ⟨N, h2, d :: ds, P, _, Sx.noX S2.toSim, ?_, p2, (k.tr (t1.trans t2)).in S2⟩⟩
    rw [List.append_nil]; exact .cons (r1.tr t2) r2⟩
instance {D : DX} {C : Addr} {m : Str} {E : XK} {X : Ev' → Addr → List (Str × PyData) → Lh → Prop} {ta : TE} {tb : TA} {a : WE} {b : WA} [A : RE K ⟨fun _ => E, X⟩ ta a] [B : RA K ⟨fun _ => E, X⟩ tb b] : RE K ⟨fun _ => E, X⟩ (tMeth C m (SpX K D) [] E ta tb) (wMeth C m D X a b) := ⟨fun {N σ H ρ h P Q} S E0 p k =>
  A.run S E0 p fun v d H1 h1 t1 S1 r1 ⟨q, fs, e, e2, e3, p1⟩ => by
    obtain ⟨dx, xs, z, pr⟩ := Rl.insH S1 e2
    have ev := r1.r (a := q) (by rw [e]; exact asR_rf q)
    refine ⟨q, dx, xs, ev, z, (Paired.lookup pr).1 e3, B.run S1 (E0.tr t1) p1 fun vs ds H2 h2 t2 S2 r2 p2 => ⟨N, h2, d :: ds, P, X ρ, S2.call (E0.tr (t1.trans t2)), ?_, p2, (k.tr (t1.trans t2)).in S2⟩⟩
    rw [List.append_nil]; exact .cons (r1.tr t2) r2⟩
/-- a new instance -/
@[simp] def wMake (C : Addr) (D : DX) (X : Ev' → Addr → List (Str × PyData) → Lh → Prop) (a : WA) : WE := fun ρ h P => a ρ h fun ds h1 => ∀ x, h1 x = none → D (rf x :: ds) (up h1 x (.ins C [])) (fun d h2 => d = .none ∧ P (rf x) h2) (X ρ)
@[simp] def wMakeW (C : Addr) (D : List PyData → Lh → Wv → Prop) (a : WA) : WE := fun ρ h P => a ρ h fun ds h1 => ∀ x, h1 x = none → D (rf x :: ds) (up h1 x (.ins C [])) (fun d h2 => d = .none ∧ P (rf x) h2)
theorem make_sim {N : Addr → Prop} {H1 : Hp} {h1 : Lh} {x dx C : Addr} (S1 : Sim K N H1 h1) (hx : H1 x = none) (hdx : H1 dx = none) (ne : dx ≠ x) : Tr H1 h1 (L2.upd (L2.upd H1 dx (.own x)) x (.ins C dx [])) (up h1 x (.ins C [])) ∧ Sim K N (L2.upd (L2.upd H1 dx (.own x)) x (.ins C dx [])) (up h1 x (.ins C [])) := by
  have hx' : L2.upd H1 dx (.own x) x = none := by rw [upd_ne (Ne.symm ne)]; exact hx
  have S2 := S1.new (v := .own x) hdx
  have t2 : Tr H1 h1 (L2.upd H1 dx (.own x)) h1 := Tr.new hdx
  exact ⟨t2.trans (Tr.put (.inl hx')), S2.put (p := x) (v := .ins C dx []) (l := .ins C []) (.inl hx') (.ins .nil)⟩
instance (priority := high) {D : List PyData → Lh → Wv → Prop} {C : Addr} {E : XK} {ta : TA} {a : WA} [A : RA K XX ta a] : RE K XX (tMake C (SpX K fun ds h P _ => D ds h P) [] E ta) (wMakeW C D a) := ⟨fun {N σ H ρ h P Q} S E0 p k =>
  A.run S E0 p fun vs ds H1 h1 t1 S1 r1 p1 x dx hx hdx ne => by
    obtain ⟨t3, S3⟩ := make_sim (C := C) S1.toSim hx hdx ne
    refine ⟨N, _, rf x :: ds, _, _, Sx.noX S3, ?_, p1 x (S1.hn hx), fun v d H4 h4 t4 S4 r4 ⟨e, p4⟩ => ?_⟩
    · rw [List.append_nil]; exact .cons (.rf x) (r1.tr t3)
    · subst e
      exact ⟨r4.n, (k.tr ((t1.trans t3).trans t4)).at (S1.to (t3.trans t4) S4.toSim) (.rf x) p4⟩⟩
instance {D : DX} {C : Addr} {E : XK} {X : Ev' → Addr → List (Str × PyData) → Lh → Prop} {ta : TA} {a : WA} [A : RA K ⟨fun _ => E, X⟩ ta a] : RE K ⟨fun _ => E, X⟩ (tMake C (SpX K D) [] E ta) (wMake C D X a) := ⟨fun {N σ H ρ h P Q} S E0 p k =>
  A.run S E0 p fun vs ds H1 h1 t1 S1 r1 p1 x dx hx hdx ne => by
    obtain ⟨t3, S3⟩ := make_sim (C := C) S1.toSim hx hdx ne
    refine ⟨N, _, rf x :: ds, _, X ρ, (S1.to t3 S3).call (E0.tr (t1.trans t3)), ?_, p1 x (S1.hn hx), fun v d H4 h4 t4 S4 r4 ⟨e, p4⟩ => ?_⟩
    · rw [List.append_nil]; exact .cons (.rf x) (r1.tr t3)
    · subst e
      exact ⟨r4.n, (k.tr ((t1.trans t3).trans t4)).at (S1.to (t3.trans t4) S4.toSim) (.rf x) p4⟩⟩
/-- e.f -/
@[simp] def wFld (K : PySem.W.Frag) (a : WE) (f : Str) : WE := fun ρ h P => a ρ h fun d h1 => ∃ p C fs v, d = rf p ∧ h1 p = some (.ins C fs) ∧ Cls K C ∧ NoAttr K C f ∧ lkD f fs = some v ∧ P v h1
instance {ta : TE} {a : WE} {f : Str} [A : RE K XX ta a] : RE K XX (tFld K ta f) (wFld K a f) := ⟨fun {N σ H ρ h P Q} S E p k =>
  A.run S E p fun v d H1 h1 t1 S1 r1 ⟨q, C, fs, y, e, e2, c1, c2, e3, p1⟩ => by
    obtain ⟨dx, xs, z, pr⟩ := Rl.insH S1 e2
    obtain ⟨w, hw, rw'⟩ := (Paired.lookup pr).2 y e3
    exact ⟨q, C, dx, xs, w, r1.r (a := q) (by rw [e]; exact asR_rf q), z, c1, c2, hw, (k.tr t1).at S1 rw' p1⟩⟩
/-! ### methods of lists -/
class RMW (K : PySem.W.Frag) (r : V → List V → Hp → VK → Prop) (f : outParam (PyData → List PyData → Lh → Wv → Prop)) : Prop where
  run : ∀ {XX : XP} {N : Addr → Prop} {H : Hp} {h : Lh} {x : V} {xs : List V} {d : PyData} {ds : List PyData} {P : Wv} {Q : VK}, Sx K XX N H h → Rl K N H h x d → Rls K N H h xs ds → f d ds h P → Ko K XX N H h P Q → r x xs H Q
@[simp] def wBM (f : PyData → List PyData → Lh → Wv → Prop) (a : WE) (b : WA) : WE := fun ρ h P => a ρ h fun d h1 => (∃ ds, lv h1 d = some ds) ∧ b ρ h1 fun es h2 => f d es h2 P
instance {r : V → List V → Hp → VK → Prop} {f : PyData → List PyData → Lh → Wv → Prop} {ta : TE} {tb : TA} {a : WE} {b : WA} [A : RE K XX ta a] [B : RA K XX tb b] [R : RMW K r f] : RE K XX (tBM K "list" r ta tb) (wBM f a b) := ⟨fun S E p k =>
  A.run S E p fun v d H1 h1 t1 S1 r1 ⟨⟨ds, e⟩, p1⟩ => ⟨by
    obtain ⟨q, xs, rfl, t, _⟩ := r1.lv S1 e
    exact .inl ⟨rfl, xs, t⟩, B.run S1 (E.tr t1) p1 fun vs es H2 h2 t2 S2 r2 p2 => R.run S2 (r1.tr t2) r2 p2 (k.tr (t1.trans t2))⟩⟩
instance {r : V → List V → Hp → VK → Prop} {f : PyData → List PyData → Lh → Wv → Prop} {ta : TE} {a : WE} [A : RE K XX ta a] [R : RMW K r f] : RE K XX (tBM0 K "list" r ta) (wBM f a wNil) := ⟨fun S E p k =>
  A.run S E p fun v d H1 h1 t1 S1 r1 ⟨⟨ds, e⟩, p1⟩ => ⟨by
    obtain ⟨q, xs, rfl, t, _⟩ := r1.lv S1 e
    exact .inl ⟨rfl, xs, t⟩, R.run S1 r1 .nil p1 (k.tr t1)⟩⟩
@[simp] def fApp (d : PyData) (es : List PyData) (h : Lh) (P : Wv) : Prop := ∃ p ds e, d = rf p ∧ es = [e] ∧ h p = some (.lst ds) ∧ ds.length < 100000 ∧ P .none (up h p (.lst (ds ++ [e])))
theorem lst_put {N : Addr → Prop} {H : Hp} {h : Lh} {p : Addr} {ds es : List PyData} {ys : List V} {P : Wv} {Q : VK} {v : V} {d : PyData} (S : Sx K XX N H h) (e : h p = some (.lst ds)) (r : Rls K N H h ys es) (rv : Rl K N H h v d) (k : Ko K XX N H h P Q) (q : P d (up h p (.lst es))) : Q v (L2.upd H p (.lst ys)) := by
  have hp : H p = none ∨ h p ≠ none := .inr (by rw [e]; intro z; cases z)
  have t : Tr H h (L2.upd H p (.lst ys)) (up h p (.lst es)) := Tr.put hp
  exact (k.tr t).at (S.put hp (.lst r)) (rv.tr t) q
instance : RMW K rAppend fApp := ⟨fun S rx rs ⟨p, ds, e, e1, e2, e3, l, q⟩ k => by
  subst e2
  obtain ⟨w, rfl, rw'⟩ := rs.one
  obtain ⟨xs, z, r⟩ := Rl.lvH S e3
  exact ⟨p, xs, w, rx.r (a := p) (by rw [e1]; exact asR_rf p), rfl, z, sz_lt (by rw [r.length]; exact l), lst_put S e3 (r.append (.cons rw' .nil)) .non k q⟩⟩
theorem dropLast_rl {N : Addr → Prop} {H : Hp} {h : Lh} {xs : List V} {ds : List PyData} (r : Rls K N H h xs ds) : Rls K N H h xs.dropLast ds.dropLast := by
  rw [List.dropLast_eq_take, List.dropLast_eq_take, r.length]; exact r.take _
@[simp] def fPop (d : PyData) (es : List PyData) (h : Lh) (P : Wv) : Prop := ∃ p ds e, d = rf p ∧ es = [] ∧ h p = some (.lst ds) ∧ ds[ds.length - 1]? = some e ∧ P e (up h p (.lst ds.dropLast))
instance : RMW K rPop fPop := ⟨fun S rx rs ⟨p, ds, e, e1, e2, e3, l, q⟩ k => by
  subst e2
  cases rs
  obtain ⟨xs, z, r⟩ := Rl.lvH S e3
  obtain ⟨w, hw, rw'⟩ := r.getD l
  exact ⟨p, xs, w, rx.r (a := p) (by rw [e1]; exact asR_rf p), rfl, z, by rw [r.length]; exact hw, lst_put S e3 (dropLast_rl r) rw' k q⟩⟩
theorem eraseIdx_rl {N : Addr → Prop} {H : Hp} {h : Lh} : ∀ {xs : List V} {ds : List PyData} (i : Nat), Rls K N H h xs ds → Rls K N H h (xs.eraseIdx i) (ds.eraseIdx i)
  | _, _, _, .nil => .nil
  | _, _, 0, .cons a b => b
  | _, _, i + 1, .cons a b => .cons a (eraseIdx_rl i b)
@[simp] def fPopAt (d : PyData) (es : List PyData) (h : Lh) (P : Wv) : Prop := ∃ p ds e i k, d = rf p ∧ es = [.int i] ∧ h p = some (.lst ds) ∧ -(2 ^ 63) ≤ i ∧ i < 2 ^ 63 ∧ seqIndex? i ds.length = some k ∧ ds[k]? = some e ∧ P e (up h p (.lst (ds.eraseIdx k)))
instance : RMW K rPopAt fPopAt := ⟨fun S rx rs ⟨p, ds, e, i, k', e1, e2, e3, l1, l2, l3, l4, q⟩ k => by
  subst e2
  obtain ⟨w0, rfl, i0⟩ := rs.one
  obtain ⟨xs, z, r⟩ := Rl.lvH S e3
  obtain ⟨w, hw, rw'⟩ := r.getD l4
  exact ⟨p, xs, i, k', w, rx.r (a := p) (by rw [e1]; exact asR_rf p), by rw [i0.i], z, l1, l2, by rw [r.length]; exact l3, hw, lst_put S e3 (eraseIdx_rl k' r) rw' k q⟩⟩
end
end Wl
set_option Elab.async false
set_option linter.all false
set_option maxRecDepth 100000
set_option maxHeartbeats 2000000
/-! Wd: statements, loops, comprehensions over the plain layer. -/
namespace Wl
open PySem PySem.Spec PyProof.Rows L2 Evl Pd
structure WEnds where
  nx : Ev' → Lh → Prop
  rt : Wv
  bk : Ev' → Lh → Prop := fun _ _ => False
  ct : Ev' → Lh → Prop := fun _ _ => False
abbrev WS := WEnds → Ev' → Lh → Prop
def KoS (K : PySem.W.Frag) (XX : XP) (N : Addr → Prop) (H : Hp) (h : Lh) (P : Ev' → Lh → Prop) (Q : L2.St → Hp → Prop) : Prop := ∀ σ' ρ' H' h', Tr H h H' h' → Sx K XX N H' h' → En K N H' h' σ' ρ' → P ρ' h' → Q σ' H'
theorem KoS.tr {K : PySem.W.Frag} {XX : XP} {N : Addr → Prop} {H H' : Hp} {h h' : Lh} {P : Ev' → Lh → Prop} {Q : L2.St → Hp → Prop} (t : Tr H h H' h') (k : KoS K XX N H h P Q) : KoS K XX N H' h' P Q := fun v d H2 h2 t2 S r p => k v d H2 h2 (t.trans t2) S r p
structure EnK (K : PySem.W.Frag) (XX : XP) (N : Addr → Prop) (H : Hp) (h : Lh) (E : WEnds) (D : Ends) : Prop where
  nx : KoS K XX N H h E.nx D.nx
  rt : Ko K XX N H h E.rt D.rt
  bk : KoS K XX N H h E.bk D.bk
  ct : KoS K XX N H h E.ct D.ct
theorem EnK.tr {K : PySem.W.Frag} {XX : XP} {N : Addr → Prop} {H H' : Hp} {h h' : Lh} {E : WEnds} {D : Ends} (t : Tr H h H' h') (k : EnK K XX N H h E D) : EnK K XX N H' h' E D := ⟨k.nx.tr t, k.rt.tr t, k.bk.tr t, k.ct.tr t⟩
class RS (K : PySem.W.Frag) (XX : XP) (ts : TS) (w : outParam WS) : Prop where
  run : ∀ {N : Addr → Prop} {σ : L2.St} {H : Hp} {ρ : Ev'} {h : Lh} {E : WEnds} {D : Ends}, Sx K XX N H h → En K N H h σ ρ → w E ρ h → EnK K XX N H h E D → ts D σ H
abbrev WG := PyData → Ev' → Lh → (Ev' → Lh → Prop) → Prop
class RG (K : PySem.W.Frag) (XX : XP) (g : TG) (w : outParam WG) : Prop where
  run : ∀ {N : Addr → Prop} {v : V} {d : PyData} {σ : L2.St} {H : Hp} {ρ : Ev'} {h : Lh} {P : Ev' → Lh → Prop} {Q : L2.St → Hp → Prop}, Sx K XX N H h → En K N H h σ ρ → Rl K N H h v d → w d ρ h P → KoS K XX N H h P Q → g v σ H Q
abbrev WGs := List PyData → Ev' → Lh → (Ev' → Lh → Prop) → Prop
class RGs (K : PySem.W.Frag) (XX : XP) (g : TGs) (w : outParam WGs) : Prop where
  run : ∀ {N : Addr → Prop} {v : List V} {d : List PyData} {σ : L2.St} {H : Hp} {ρ : Ev'} {h : Lh} {P : Ev' → Lh → Prop} {Q : L2.St → Hp → Prop}, Sx K XX N H h → En K N H h σ ρ → Rls K N H h v d → w d ρ h P → KoS K XX N H h P Q → g v σ H Q
section
variable {K : PySem.W.Frag} {XX : XP}
/-! ### targets -/
@[simp] def wName (i : Nat) : WG := fun d ρ h P => P (ρ.set i (some d)) h
instance (i : Nat) : RG K XX (gName i) (wName i) := ⟨fun S E r p k => k _ _ _ _ (Tr.refl _ _) S (E.set i r) p⟩
@[simp] def wGNil : WGs := fun ds ρ h P => ds = [] ∧ P ρ h
@[simp] def wGCons (a : WG) (b : WGs) : WGs := fun ds ρ h P => ∃ d es, ds = d :: es ∧ a d ρ h fun ρ1 h1 => b es ρ1 h1 P
instance : RGs K XX gNil wGNil := ⟨fun S E r ⟨e, p⟩ k => by subst e; cases r; exact ⟨rfl, k _ _ _ _ (Tr.refl _ _) S E p⟩⟩
instance {ta : TG} {tb : TGs} {a : WG} {b : WGs} [A : RG K XX ta a] [B : RGs K XX tb b] : RGs K XX (gCons ta tb) (wGCons a b) := ⟨fun S E r ⟨d, es, e, p⟩ k => by
  subst e
  cases r with
  | cons r1 r2 => exact ⟨_, _, rfl, A.run S E r1 p fun σ1 ρ1 H1 h1 t1 S1 E1 p1 => B.run S1 E1 (r2.tr t1) p1 (k.tr t1)⟩⟩
@[simp] def wGTup (n : Nat) (b : WGs) : WG := fun d ρ h P => ∃ ds, tv d = some ds ∧ ds.length = n ∧ b ds ρ h P
instance {tb : TGs} {b : WGs} {n : Nat} [B : RGs K XX tb b] : RG K XX (gTup K n tb) (wGTup n b) := ⟨fun S E r ⟨ds, e, l, p⟩ k => by
  obtain ⟨a, xs, rfl, t, rs⟩ := r.tv e
  exact ⟨a, xs, rfl, t, by rw [rs.length]; exact l, B.run S E rs p k⟩⟩
@[simp] def wGSub (a b : WE) : WG := fun d ρ h P => a ρ h fun o h1 => b ρ h1 fun i h2 => ∃ p ds k j, o = rf p ∧ i = .int k ∧ h2 p = some (.lst ds) ∧ ixN ds.length k = some j ∧ P ρ (up h2 p (.lst (ds.set j d)))
instance {ta tb : TE} {a b : WE} [A : RE K XX ta a] [B : RE K XX tb b] : RG K XX (gSub ta tb rSetL) (wGSub a b) := ⟨fun {N v d σ H ρ h P Q} S E r p k =>
  A.run S E p fun o od H1 h1 t1 S1 r1 p1 => B.run S1 (E.tr t1) p1 fun i id H2 h2 t2 S2 r2 ⟨q, ds, n, j, e1, e2, e3, e4, p2⟩ => by
    subst e2
    obtain ⟨xs, z, rs⟩ := Rl.lvH S2 e3
    have hp : H2 q = none ∨ h2 q ≠ none := .inr (by rw [e3]; intro z; cases z)
    have t := t1.trans t2
    have t3 : Tr H2 h2 (L2.upd H2 q (.lst (xs.set j v))) (up h2 q (.lst (ds.set j d))) := Tr.put hp
    refine ⟨q, xs, n, j, (r1.tr t2).r (a := q) (by rw [e1]; exact asR_rf q), r2.i, z, by rw [rs.length]; exact e4, k _ _ _ _ (t.trans t3) (S2.put hp (.lst (Rls.set (r.tr t) j rs))) (E.tr (t.trans t3)) p2⟩⟩
/-! ### statements -/
@[simp] def wNext : WS := fun E ρ h => E.nx ρ h
@[simp] def wSeq (a b : WS) : WS := fun E ρ h => a { E with nx := b E } ρ h
@[simp] def wBreak : WS := fun E ρ h => E.bk ρ h
@[simp] def wCont : WS := fun E ρ h => E.ct ρ h
@[simp] def wDrop (a : WE) : WS := fun E ρ h => a ρ h fun _ h1 => E.nx ρ h1
@[simp] def wRet (a : WE) : WS := fun E ρ h => a ρ h E.rt
@[simp] def wRetN : WS := fun E _ h => E.rt .none h
@[simp] def wIfS (t : WT) (a b : WS) : WS := fun E ρ h => t ρ h fun c h1 => wCond c (a E ρ h1) (b E ρ h1)
@[simp] def wAsg (a : WE) (g : WG) : WS := fun E ρ h => a ρ h fun d h1 => g d ρ h1 E.nx
@[simp] def wPar (i j : Nat) (a : WA) : WS := fun E ρ h => a ρ h fun ds h1 => ∃ d e, ds = [d, e] ∧ E.nx ((ρ.set i (some d)).set j (some e)) h1
@[simp] def wPar3 (i j l : Nat) (a : WA) : WS := fun E ρ h => a ρ h fun ds h1 => ∃ d e f, ds = [d, e, f] ∧ E.nx (((ρ.set i (some d)).set j (some e)).set l (some f)) h1
instance : RS K XX tNext wNext := ⟨fun S E p k => k.nx _ _ _ _ (Tr.refl _ _) S E p⟩
instance {ta tb : TS} {a b : WS} [A : RS K XX ta a] [B : RS K XX tb b] : RS K XX (tSeq ta tb) (wSeq a b) := ⟨fun S E p k =>
  A.run S E p ⟨fun σ1 ρ1 H1 h1 t1 S1 E1 p1 => B.run S1 E1 p1 (k.tr t1), k.rt, k.bk, k.ct⟩⟩
instance : RS K XX tBreak wBreak := ⟨fun S E p k => k.bk _ _ _ _ (Tr.refl _ _) S E p⟩
instance : RS K XX tCont wCont := ⟨fun S E p k => k.ct _ _ _ _ (Tr.refl _ _) S E p⟩
instance {ta : TE} {a : WE} [A : RE K XX ta a] : RS K XX (tDrop ta) (wDrop a) := ⟨fun S E p k => A.run S E p fun v d H1 h1 t1 S1 r1 p1 => k.nx _ _ _ _ t1 S1 (E.tr t1) p1⟩
instance {ta : TE} {a : WE} [A : RE K XX ta a] : RS K XX (tRet ta) (wRet a) := ⟨fun S E p k => A.run S E p k.rt⟩
instance : RS K XX tRetN wRetN := ⟨fun S E p k => k.rt.at S .non p⟩
instance {tt : TT} {ta tb : TS} {t : WT} {a b : WS} [T : RT K XX tt t] [A : RS K XX ta a] [B : RS K XX tb b] : RS K XX (tIfS tt ta tb) (wIfS t a b) := ⟨fun S E p k => T.run S E p fun c H1 h1 t1 S1 p1 =>
  p1.on (fun q => A.run S1 (E.tr t1) q (k.tr t1)) fun q => B.run S1 (E.tr t1) q (k.tr t1)⟩
instance {ta : TE} {tg : TG} {a : WE} {g : WG} [A : RE K XX ta a] [G : RG K XX tg g] : RS K XX (tAsg ta tg) (wAsg a g) := ⟨fun S E p k => A.run S E p fun v d H1 h1 t1 S1 r1 p1 => G.run S1 (E.tr t1) r1 p1 (k.nx.tr t1)⟩
instance {ta : TA} {a : WA} {i j : Nat} [A : RA K XX ta a] : RS K XX (tPar i j ta) (wPar i j a) := ⟨fun S E p k => A.run S E p fun vs ds H1 h1 t1 S1 r1 ⟨d, e, q, p1⟩ => by
  subst q
  obtain ⟨v, w, rfl, rv, rw'⟩ := r1.two
  exact ⟨v, w, rfl, k.nx _ _ _ _ t1 S1 (((E.tr t1).set i rv).set j rw') p1⟩⟩
instance {ta : TA} {a : WA} {i j l : Nat} [A : RA K XX ta a] : RS K XX (tPar3 i j l ta) (wPar3 i j l a) := ⟨fun S E p k => A.run S E p fun vs ds H1 h1 t1 S1 r1 ⟨d, e, f, q, p1⟩ => by
  subst q
  cases r1 with
  | cons ru r1 =>
    obtain ⟨v, w, rfl, rv, rw'⟩ := r1.two
    exact ⟨_, v, w, rfl, k.nx _ _ _ _ t1 S1 ((((E.tr t1).set i ru).set j rv).set l rw') p1⟩⟩
/-- e.f = v -/
@[simp] def putFD (f : Str) (v : PyData) : List (Str × PyData) → List (Str × PyData)
  | [] => [(f, v)]
  | (g, u) :: r => if g = f then (g, v) :: r else (g, u) :: putFD f v r
theorem Paired.putF {N : Addr → Prop} {H : Hp} {h : Lh} {f : Str} {v : V} {d : PyData} (r : Rl K N H h v d) : ∀ {xs : List (Str × V)} {fs : List (Str × PyData)}, Paired (fun (p : Str × V) (q : Str × PyData) => p.1 = q.1 ∧ Rl K N H h p.2 q.2) xs fs →
    Paired (fun (p : Str × V) (q : Str × PyData) => p.1 = q.1 ∧ Rl K N H h p.2 q.2) (L2.putF f v xs) (putFD f d fs)
  | _, _, .nil => .cons ⟨rfl, r⟩ .nil
  | (k, x) :: xs, (k', d') :: fs, .cons a b => by
    obtain ⟨a1, a2⟩ := a
    cases a1
    unfold L2.putF putFD
    by_cases c : k = f
    · rw [if_pos c, if_pos c]; exact .cons ⟨rfl, r⟩ b
    · rw [if_neg c, if_neg c]; exact .cons ⟨rfl, a2⟩ (Paired.putF r b)
theorem Paired.len {α β : Type} {r : α → β → Prop} : ∀ {xs : List α} {ys : List β}, Paired r xs ys → xs.length = ys.length
  | _, _, .nil => rfl
  | _, _, .cons _ b => by simp [Paired.len b]
@[simp] def wSetFld (K : PySem.W.Frag) (a v : WE) (f : Str) : WS := fun E ρ h => v ρ h fun d h1 => a ρ h1 fun o h2 => ∃ p C fs, o = rf p ∧ h2 p = some (.ins C fs) ∧ Cls K C ∧ NoAttr K C f ∧ fs.length < 1000 ∧ E.nx ρ (up h2 p (.ins C (putFD f d fs)))
instance {ta tv : TE} {a v : WE} {f : Str} [A : RE K XX ta a] [B : RE K XX tv v] : RS K XX (sFld K ta tv f) (wSetFld K a v f) := ⟨fun {N σ H ρ h E D} S En p k =>
  B.run S En p fun y d H1 h1 t1 S1 r1 p1 => A.run S1 (En.tr t1) p1 fun x o H2 h2 t2 S2 r2 ⟨q, C, fs, e, e2, c1, c2, l, p2⟩ => by
    obtain ⟨dx, xs, z, pr⟩ := Rl.insH S2 e2
    have hp : H2 q = none ∨ h2 q ≠ none := .inr (by rw [e2]; intro z; cases z)
    have t := t1.trans t2
    have t3 : Tr H2 h2 (L2.upd H2 q (.ins C dx (L2.putF f y xs))) (up h2 q (.ins C (putFD f d fs))) := Tr.put hp
    exact ⟨q, C, dx, xs, r2.r (a := q) (by rw [e]; exact asR_rf q), z, c1, c2, by rw [Paired.len pr]; exact l, k.nx _ _ _ _ (t.trans t3) (S2.put hp (.ins (Paired.putF (r1.tr t2) pr))) (En.tr (t.trans t3)) p2⟩⟩
/-! ### what is walked -/
abbrev WI := Ev' → Lh → (List PyData → (Lh → Prop) → Lh → Prop) → Prop
class RI (K : PySem.W.Frag) (XX : XP) (wi : TI) (w : outParam WI) : Prop where
  run : ∀ {N : Addr → Prop} {σ : L2.St} {H : Hp} {ρ : Ev'} {h : Lh} {P : List PyData → (Lh → Prop) → Lh → Prop} {R : It → Hp → Prop}, Sx K XX N H h → En K N H h σ ρ → w ρ h P →
    (∀ (J : It) (H2 : Hp) (h2 : Lh) (ds : List PyData) (keep : Lh → Prop) (G : Hp → Prop) (Y : Nat → Hp → V → Hp → Prop), Tr H h H2 h2 → Sx K XX N H2 h2 → P ds keep h2 → Walk J ds.length G Y →
      (∀ (N' : Addr → Prop) (H3 : Hp) (h3 : Lh), (∀ a, N' a → N a ∨ H2 a = none) → Tr H2 h2 H3 h3 → Sx K XX N' H3 h3 → keep h3 → G H3) →
      (∀ (N' : Addr → Prop) (i : Nat) (H3 : Hp) (h3 : Lh) (x : V) (H4 : Hp), (∀ a, N' a → N a ∨ H2 a = none) → Tr H2 h2 H3 h3 → Sx K XX N' H3 h3 → keep h3 → Y i H3 x H4 → ∃ d, ds[i]? = some d ∧ Tr H3 h3 H4 h3 ∧ Ex H3 H4 ∧ Sx K XX N' H4 h3 ∧ Rl K N' H4 h3 x d) → R J H2) → wi σ H R
/-- a tuple's items, of a bare one too -/
def tw : PyData → Option (List PyData)
  | .tuple ds => some ds
  | .dict [(.bool true, .tuple ds)] => some ds
  | _ => none
@[simp] theorem tw_none  : Wl.tw .none = Option.none := rfl
@[simp] theorem tw_bool {b : Bool} : Wl.tw (.bool b) = Option.none := rfl
@[simp] theorem tw_int {i : Int} : Wl.tw (.int i) = Option.none := rfl
@[simp] theorem tw_str {s : Str} : Wl.tw (.str s) = Option.none := rfl
@[simp] theorem tw_list {l : List PyData} : Wl.tw (.list l) = Option.none := rfl
@[simp] theorem tw_tup {l : List PyData} : Wl.tw (.tuple l) = some l := rfl
@[simp] theorem tw_bt {l : List PyData} : Wl.tw (.dict [(.bool true, .tuple l)]) = some l := rfl
@[simp] theorem tw_rf {i : Int} {d : PyData} : Wl.tw (.dict [(.int i, d)]) = Option.none := rfl
@[simp] theorem tw_sc {d : PyData} : Wl.tw (.dict [(.none, d)]) = Option.none := rfl
@[simp] def wITup (a : WE) : WI := fun ρ h P => a ρ h fun d h1 => ∃ ds, tw d = some ds ∧ P ds (fun _ => True) h1
theorem Tu.tr {N N' : Addr → Prop} {H H' : Hp} {h h' : Lh} {a : Addr} {xs : List V} (t : Tr H h H' h') (u : Tu K N H h a xs) : SqT K H' a xs := by
  rcases u with u | u
  · exact .inl (t.rd u.1 u.2.1)
  · exact .inr u
theorem tw_tv : ∀ d : PyData, Wl.tw d = Wl.tv d := fun _ => rfl
theorem Rl.tupw {N : Addr → Prop} {H : Hp} {h : Lh} {v : V} {d : PyData} {ds : List PyData} (r : Rl K N H h v d) (e : Wl.tw d = some ds) : ∃ a xs, v = .ref a ∧ (∀ {H' : Hp} {h' : Lh}, Tr H h H' h' → SqT K H' a xs) ∧ Rls K N H h xs ds := by
  obtain ⟨a, xs, e1, u, r2⟩ := (r.tvt e).t
  exact ⟨a, xs, e1, fun {H' h'} t => u.tr (N' := N) t, r2⟩
theorem Rl.tup' {N : Addr → Prop} {H : Hp} {h : Lh} {v : V} {d : PyData} {ds : List PyData} (r : Rl K N H h v d) (e : Wl.tv d = some ds) : ∃ a xs, v = .ref a ∧ Tu K N H h a xs ∧ Rls K N H h xs ds := (r.tvt e).t
instance {ta : TE} {a : WE} [A : RE K XX ta a] : RI K XX (iTup K ta) (wITup a) := ⟨fun {N σ H ρ h P R} S E p k => A.run S E p fun v d H1 h1 t1 S1 r1 ⟨ds, e, p1⟩ => by
  obtain ⟨q, xs, rfl, t, rs⟩ := r1.tupw e
  refine ⟨q, rfl, ⟨xs, t (Tr.refl _ _)⟩, k _ H1 h1 ds _ (fun H => SqT K H q xs) (YAt xs) t1 S1 p1 (by rw [← rs.length]; exact walk_tup) (fun N' H3 h3 _ t3 _ _ => t t3) fun N' i H3 h3 x H4 hN t3 S3 _ yy => ?_⟩
  obtain ⟨rfl, hx⟩ := yy
  obtain ⟨d, hd, r⟩ := rs.get hx
  exact ⟨d, hd, Tr.refl _ _, Ex.refl _, S3, (r.hid hN).tr t3⟩⟩
@[simp] def wIList (a : WE) : WI := fun ρ h P => a ρ h fun d h1 => ∃ ds, lv h1 d = some ds ∧ P ds (fun h3 => lv h3 d = some ds) h1
theorem walkL {a : Addr} {n : Nat} : Walk (Itl K a) n (fun H => ∃ xs, SqL K H a xs ∧ xs.length = n) (fun i H x H' => H' = H ∧ ∀ xs, SqL K H a xs → xs[i]? = some x) :=
  ⟨fun i H hi ⟨xs, s, l⟩ => ⟨xs, xs[i]'(by omega), s, by simp [show i < xs.length by omega]⟩, fun H ⟨xs, s, l⟩ => ⟨xs, s, by omega⟩, fun i H x H' hi _ y => y⟩
instance {ta : TE} {a : WE} [A : RE K XX ta a] : RI K XX (iList K ta) (wIList a) := ⟨fun {N σ H ρ h P R} S E p k => A.run S E p fun v d H1 h1 t1 S1 r1 ⟨ds, e, p1⟩ => by
  obtain ⟨q, xs, rfl, t, rs⟩ := r1.lv S1 e
  have at3 : ∀ (N' : Addr → Prop) (H3 : Hp) (h3 : Lh), (∀ a, N' a → N a ∨ H1 a = none) → Tr H1 h1 H3 h3 → Sx K XX N' H3 h3 → lv h3 d = some ds → ∃ ys, SqL K H3 q ys ∧ Rls K N' H3 h3 ys ds := fun N' H3 h3 hN t3 S3 e3 => by
    obtain ⟨q', ys, e', z, r3⟩ := ((r1.hid hN).tr t3).lv S3 e3
    cases e'
    exact ⟨ys, z, r3⟩
  refine ⟨q, rfl, ⟨xs, t⟩, k _ H1 h1 ds _ (fun H => ∃ xs, SqL K H q xs ∧ xs.length = ds.length) (fun i H x H' => H' = H ∧ ∀ xs, SqL K H q xs → xs[i]? = some x) t1 S1 p1 walkL (fun N' H3 h3 hN t3 S3 kp => ?_) fun N' i H3 h3 x H4 hN t3 S3 kp yy => ?_⟩
  · obtain ⟨ys, z, r3⟩ := at3 N' H3 h3 hN t3 S3 kp
    exact ⟨ys, z, r3.length⟩
  · obtain ⟨ys, z, r3⟩ := at3 N' H3 h3 hN t3 S3 kp
    obtain ⟨rfl, hx⟩ := yy
    obtain ⟨d', hd, r⟩ := r3.get (hx ys z)
    exact ⟨d', hd, Tr.refl _ _, Ex.refl _, S3, r⟩⟩
@[simp] def wIStr (a : WE) : WI := fun ρ h P => a ρ h fun d h1 => ∃ z, d = .str z ∧ P (Pd.signs z) (fun _ => True) h1
instance {ta : TE} {a : WE} [A : RE K XX ta a] : RI K XX (iStr ta) (wIStr a) := ⟨fun {N σ H ρ h P R} S E p k => A.run S E p fun v d H1 h1 t1 S1 r1 ⟨z, e, p1⟩ => by
  subst e
  refine ⟨z, r1.s, k _ H1 h1 (Pd.signs z) _ (fun _ => True) (fun i H v H' => H' = H ∧ ∃ c, z.cps[i]? = some c ∧ v = .str ⟨#[c]⟩) t1 S1 p1 (by
    have : (Pd.signs z).length = z.cps.size := by simp [Pd.signs]
    rw [this]; exact walk_str) (fun _ _ _ _ _ _ _ => trivial) fun N' i H3 h3 x H4 hN t3 S3 _ yy => ?_⟩
  obtain ⟨rfl, c, hc, rfl⟩ := yy
  refine ⟨.str ⟨#[c]⟩, ?_, Tr.refl _ _, Ex.refl _, S3, .str _⟩
  unfold Pd.signs
  rw [List.getElem?_map]
  have : z.cps.toList[i]? = some c := by simpa using hc
  rw [this]; rfl⟩
def rgD (i j : Int) : List PyData := (List.range (j - i).toNat).map fun k => .int (i + (k : Nat))
theorem rgD_len (i j : Int) : (rgD i j).length = (j - i).toNat := by simp [rgD]
theorem rgD_at {i j : Int} {k : Nat} (h : k < (j - i).toNat) : (rgD i j)[k]? = some (.int (i + (k : Nat))) := by simp [rgD, h]
theorem walkR {lo : Int} {n : Nat} : Walk (Itr lo n) n (fun _ => True) (fun i H x H' => i < n ∧ H' = H ∧ x = .int (lo + i)) :=
  ⟨fun i H hi _ => hi, fun H _ => Nat.le_refl _, fun i H x H' hi _ y => ⟨hi, y.1, y.2⟩⟩
@[simp] def wIRng1 (a : WA) : WI := fun ρ h P => a ρ h fun ds h1 => ∃ j, ds = [.int j] ∧ -100000000 ≤ j ∧ j ≤ 100000000 ∧ P (rgD 0 j) (fun _ => True) h1
instance {ta : TA} {a : WA} [A : RA K XX ta a] : RI K XX (iRng1 ta) (wIRng1 a) := ⟨fun {N σ H ρ h P R} S E p k => A.run S E p fun vs ds H1 h1 t1 S1 r1 ⟨j, e, l1, l2, p1⟩ => by
  subst e
  obtain ⟨v, rfl, i⟩ := r1.one
  refine ⟨j, by rw [i.i], by omega, by omega, k _ H1 h1 (rgD 0 j) _ (fun _ => True) (fun i H x H' => i < j.toNat ∧ H' = H ∧ x = .int (0 + i)) t1 S1 p1 (by rw [rgD_len, Int.sub_zero]; exact walkR) (fun _ _ _ _ _ _ _ => trivial) fun N' i H3 h3 x H4 hN t3 S3 _ yy => ?_⟩
  obtain ⟨hi, rfl, rfl⟩ := yy
  exact ⟨_, rgD_at (by rw [Int.sub_zero]; exact hi), Tr.refl _ _, Ex.refl _, S3, .int _⟩⟩
@[simp] def wIRng2 (a : WA) : WI := fun ρ h P => a ρ h fun ds h1 => ∃ i j, ds = [.int i, .int j] ∧ -100000000 ≤ i ∧ i ≤ 100000000 ∧ -100000000 ≤ j ∧ j ≤ 100000000 ∧ P (rgD i j) (fun _ => True) h1
instance {ta : TA} {a : WA} [A : RA K XX ta a] : RI K XX (iRng2 ta) (wIRng2 a) := ⟨fun {N σ H ρ h P R} S E p k => A.run S E p fun vs ds H1 h1 t1 S1 r1 ⟨i, j, e, l1, l2, l3, l4, p1⟩ => by
  subst e
  obtain ⟨v, w, rfl, iv, iw⟩ := r1.two
  refine ⟨i, j, by rw [iv.i, iw.i], ⟨by omega, by omega, by omega, by omega⟩, k _ H1 h1 (rgD i j) _ (fun _ => True) (fun n H x H' => n < (j - i).toNat ∧ H' = H ∧ x = .int (i + n)) t1 S1 p1 (by rw [rgD_len]; exact walkR) (fun _ _ _ _ _ _ _ => trivial) fun N' n H3 h3 x H4 hN t3 S3 _ yy => ?_⟩
  obtain ⟨hi, rfl, rfl⟩ := yy
  exact ⟨_, rgD_at hi, Tr.refl _ _, Ex.refl _, S3, .int _⟩⟩
/-! ### loops -/
@[simp] def forL (keep : Lh → Prop) (g : WG) (b : WS) (E : WEnds) : List PyData → Ev' → Lh → Prop
  | [], ρ, h => keep h ∧ E.nx ρ h
  | d :: ds, ρ, h => keep h ∧ g d ρ h fun ρ1 h1 => b { nx := forL keep g b E ds, rt := E.rt, bk := E.nx, ct := forL keep g b E ds } ρ1 h1
@[simp] def wFor (s : WI) (g : WG) (b : WS) : WS := fun E ρ h => s ρ h fun ds keep h1 => forL keep g b E ds ρ h1
theorem forL_keep {keep : Lh → Prop} {g : WG} {b : WS} {E : WEnds} {ds : List PyData} {ρ : Ev'} {h : Lh} (p : forL keep g b E ds ρ h) : keep h := by
  cases ds <;> exact p.1
instance {ti : TI} {tg : TG} {tb : TS} {s : WI} {g : WG} {b : WS} [I : RI K XX ti s] [G : RG K XX tg g] [B : RS K XX tb b] : RS K XX (tFor ti tg tb) (wFor s g b) := ⟨fun {N σ H ρ h E D} S En0 p k =>
  I.run S En0 p fun J H2 h2 ds keep Gd Y t2 S2 p2 W hG hY => by
    refine for_it W (fun i σ' H' => ∃ ρ' h', Tr H2 h2 H' h' ∧ Sx K XX N H' h' ∧ En K N H' h' σ' ρ' ∧ forL keep g b E (ds.drop i) ρ' h') ⟨ρ, h2, Tr.refl _ _, S2, En0.tr t2, p2⟩ (fun i σ' H' _ ⟨ρ', h', t', S', E', p'⟩ => hG N H' h' (fun a z => .inl z) t' S' (forL_keep p')) (fun i x σ' H' H4 hi ⟨ρ', h', t', S', E', p'⟩ y => ?_) fun σ' H' ⟨ρ', h', t', S', E', p'⟩ => ?_
    · obtain ⟨d, hd, t4, _, S4, r4⟩ := hY N i H' h' x H4 (fun a z => .inl z) t' S' (forL_keep p') y
      have hdr : ds.drop i = d :: ds.drop (i + 1) := by
        have hl : i < ds.length := hi
        rw [List.drop_eq_getElem_cons hl]
        have : ds[i] = d := by simpa [hl] using hd
        rw [this]
      rw [hdr] at p'
      refine G.run S4 (E'.tr t4) r4 p'.2 fun σ5 ρ5 H5 h5 t5 S5 E5 p5 => B.run S5 E5 p5 ⟨?_, ?_, ?_, ?_⟩
      · exact fun σ6 ρ6 H6 h6 t6 S6 E6 p6 => ⟨ρ6, h6, ((t'.trans t4).trans t5).trans t6, S6, E6, p6⟩
      · exact k.rt.tr (((t2.trans t').trans t4).trans t5)
      · exact k.nx.tr (((t2.trans t').trans t4).trans t5)
      · exact fun σ6 ρ6 H6 h6 t6 S6 E6 p6 => ⟨ρ6, h6, ((t'.trans t4).trans t5).trans t6, S6, E6, p6⟩
    · rw [List.drop_length] at p'
      exact k.nx _ _ _ _ (t2.trans t') S' E' p'.2⟩
def whN (t : WT) (b : WS) (E : WEnds) : Nat → Ev' → Lh → Prop
  | 0, _, _ => False
  | n + 1, ρ, h => t ρ h fun c h1 => wCond c (b { nx := whN t b E n, rt := E.rt, bk := E.nx, ct := whN t b E n } ρ h1) (E.nx ρ h1)
def wWhile (t : WT) (b : WS) : WS := fun E ρ h => ∃ n, whN t b E n ρ h
instance {tt : TT} {tb : TS} {t : WT} {b : WS} [T : RT K XX tt t] [B : RS K XX tb b] : RS K XX (tWhile tt tb) (wWhile t b) := ⟨fun {N σ H ρ h E D} S En0 ⟨n, p⟩ k => by
  refine ⟨fun m σ' H' => ∃ ρ' h', Tr H h H' h' ∧ Sx K XX N H' h' ∧ En K N H' h' σ' ρ' ∧ whN t b E m ρ' h', ⟨n, ρ, h, Tr.refl _ _, S, En0, p⟩, ?_⟩
  rintro m σ' H' ⟨ρ', h', t', S', E', p'⟩
  cases m with
  | zero => exact p'.elim
  | succ m =>
    refine T.run S' E' p' fun c H1 h1 t1 S1 p1 => p1.on (fun q => ?_) fun q => k.nx _ _ _ _ (t'.trans t1) S1 (E'.tr t1) q
    refine ⟨fun σ2 H2 => ∃ ρ2 h2, Tr H h H2 h2 ∧ Sx K XX N H2 h2 ∧ En K N H2 h2 σ2 ρ2 ∧ whN t b E m ρ2 h2, fun σ2 H2 z => ⟨m, Nat.lt_succ_self m, z⟩, B.run S1 (E'.tr t1) q ⟨?_, ?_, ?_, ?_⟩⟩
    · exact fun σ6 ρ6 H6 h6 t6 S6 E6 p6 => ⟨ρ6, h6, (t'.trans t1).trans t6, S6, E6, p6⟩
    · exact k.rt.tr (t'.trans t1)
    · exact k.nx.tr (t'.trans t1)
    · exact fun σ6 ρ6 H6 h6 t6 S6 E6 p6 => ⟨ρ6, h6, (t'.trans t1).trans t6, S6, E6, p6⟩⟩
end
end Wl
set_option Elab.async false
set_option linter.all false
set_option maxRecDepth 100000
set_option maxHeartbeats 2000000
/-! We: comprehensions, enumerate, zip over the plain layer. -/
namespace Wl
open PySem PySem.Spec PyProof.Rows L2 Evl Pd
theorem wipe_at (σ : L2.St) (i : Nat) : ∀ vs, (wipe σ vs)[i]? = if i ∈ vs then (if i < σ.length then some none else none) else σ[i]?
  | [] => by simp [wipe]
  | v :: vs => by
    have ih := wipe_at σ i vs
    unfold wipe
    rw [List.getElem?_set, ih, wipe_length]
    by_cases c : v = i
    · subst c; simp
    · have c' : ¬ i = v := fun z => c z.symm
      rw [if_neg c]
      simp only [List.mem_cons, c', false_or]
theorem wipe_twice (σ : L2.St) (vs : List Nat) : wipe (wipe σ vs) vs = wipe σ vs := by
  apply List.ext_getElem?
  intro i
  rw [wipe_at, wipe_at, wipe_length]
  by_cases c : i ∈ vs
  · rw [if_pos c, if_pos c]
  · rw [if_neg c, if_neg c]
theorem wipe_set {σ : L2.St} {j : Nat} {y : Option V} {vs : List Nat} (h : j ∈ vs) : wipe (σ.set j y) vs = wipe σ vs := by
  apply List.ext_getElem?
  intro i
  rw [wipe_at, wipe_at, List.length_set]
  by_cases c : i ∈ vs
  · rw [if_pos c, if_pos c]
  · rw [if_neg c, if_neg c, List.getElem?_set_ne (fun z => c (by rw [← z]; exact h))]
/-- j is among the names of a comprehension -/
class MemO (j : Nat) (vs : List Nat) : Prop where
  mem : j ∈ vs
instance (j : Nat) (s : Str) (l : List (Str × Nat)) : MemO j (((s, j) :: l).map (·.2)) := ⟨by simp⟩
instance (j : Nat) (p : Str × Nat) (l : List (Str × Nat)) [M : MemO j (l.map (·.2))] : MemO j ((p :: l).map (·.2)) := ⟨by
  rw [List.map_cons]; exact List.mem_cons_of_mem _ M.mem⟩
class RGC (K : PySem.W.Frag) (XX : XP) (vs : List Nat) (g : TG) (w : outParam WG) : Prop where
  run : ∀ {N : Addr → Prop} {v : V} {d : PyData} {σ : L2.St} {H : Hp} {ρ : Ev'} {h : Lh} {P : Ev' → Lh → Prop} {Q : L2.St → Hp → Prop}, Sx K XX N H h → En K N H h σ ρ → Rl K N H h v d → w d ρ h P →
    (∀ σ' ρ', En K N H h σ' ρ' → wipe σ' vs = wipe σ vs → P ρ' h → Q σ' H) → g v σ H Q
class RGsC (K : PySem.W.Frag) (XX : XP) (vs : List Nat) (g : TGs) (w : outParam WGs) : Prop where
  run : ∀ {N : Addr → Prop} {v : List V} {d : List PyData} {σ : L2.St} {H : Hp} {ρ : Ev'} {h : Lh} {P : Ev' → Lh → Prop} {Q : L2.St → Hp → Prop}, Sx K XX N H h → En K N H h σ ρ → Rls K N H h v d → w d ρ h P →
    (∀ σ' ρ', En K N H h σ' ρ' → wipe σ' vs = wipe σ vs → P ρ' h → Q σ' H) → g v σ H Q
section
variable {K : PySem.W.Frag} {XX : XP} {vs : List Nat}
instance (i : Nat) [M : MemO i vs] : RGC K XX vs (gName i) (wName i) := ⟨fun S E r p k => k _ _ (E.set i r) (wipe_set M.mem) p⟩
instance : RGsC K XX vs gNil wGNil := ⟨fun S E r ⟨e, p⟩ k => by subst e; cases r; exact ⟨rfl, k _ _ E rfl p⟩⟩
instance {ta : TG} {tb : TGs} {a : WG} {b : WGs} [A : RGC K XX vs ta a] [B : RGsC K XX vs tb b] : RGsC K XX vs (gCons ta tb) (wGCons a b) := ⟨fun S E r ⟨d, es, e, p⟩ k => by
  subst e
  cases r with
  | cons r1 r2 => exact ⟨_, _, rfl, A.run S E r1 p fun σ1 ρ1 E1 w1 p1 => B.run S E1 r2 p1 fun σ2 ρ2 E2 w2 p2 => k _ _ E2 (w2.trans w1) p2⟩⟩
instance {tb : TGs} {b : WGs} {n : Nat} [B : RGsC K XX vs tb b] : RGC K XX vs (gTup K n tb) (wGTup n b) := ⟨fun S E r ⟨ds, e, l, p⟩ k => by
  obtain ⟨a, xs, rfl, t, rs⟩ := r.tv e
  exact ⟨a, xs, rfl, t, by rw [rs.length]; exact l, B.run S E rs p k⟩⟩
/-! ### comprehensions -/
@[simp] def lcL (keep : Lh → Prop) (g : WG) (t : WT) (e : WE) (ρ : Ev') (P : List PyData → Lh → Prop) : List PyData → List PyData → Lh → Prop
  | [], acc, h => keep h ∧ P acc h
  | d :: ds, acc, h => keep h ∧ acc.length < 100000 ∧ g d ρ h fun ρ1 h1 => t ρ1 h1 fun b h2 => wCond b (e ρ1 h2 fun x h3 => lcL keep g t e ρ P ds (acc ++ [x]) h3) (lcL keep g t e ρ P ds acc h2)
@[simp] def wLc (s : WI) (g : WG) (t : WT) (e : WE) (vs : List Nat) : WA := fun ρ h P => s ρ h fun ds keep h1 => lcL keep g t e (wipeD ρ vs) P ds [] h1
theorem lcL_keep {keep : Lh → Prop} {g : WG} {t : WT} {e : WE} {ρ : Ev'} {P : List PyData → Lh → Prop} {ds acc : List PyData} {h : Lh} (p : lcL keep g t e ρ P ds acc h) : keep h := by
  cases ds <;> exact p.1
theorem Sim.hidUpd {N : Addr → Prop} {H : Hp} {h : Lh} {p : Addr} {u : HO} (S : Sim K N H h) (n : N p) (nt : ∀ xs, u ≠ .tup xs := by intro _ z; cases z) : Sim K N (L2.upd H p u) h := by
  have f : ∀ a o, H a = some o → h a = none → ¬ N a → L2.upd H p u a = some o ∧ h a = none ∧ ¬ N a := fun a o e1 e2 e3 => ⟨by rw [upd_ne (fun z => e3 (by rw [z]; exact n))]; exact e1, e2, e3⟩
  refine ⟨fun a o q => ?_, fun a z => ?_⟩
  · obtain ⟨n', u', e, k⟩ := S.at_ a o q
    exact ⟨n', u', by rw [upd_ne (fun z => n' (by rw [z]; exact n))]; exact e, k.mono (fun v d => Rl.trN f) (fun v d => Rls.trN f)⟩
  · by_cases c : a = p
    · subst c; exact ⟨u, upd_same, nt⟩
    · rw [upd_ne c]; exact S.hid a z
instance {ti : TI} {tg : TG} {tt : TT} {te : TE} {s : WI} {g : WG} {t : WT} {e : WE} [I : RI K XX ti s] [G : RGC K XX vs tg g] [T : RT K XX tt t] [E : RE K XX te e] : RN K XX (tLc ti tg tt te vs) (wLc s g t e vs) := ⟨fun {N σ H ρ h P Q} S En0 p k =>
  I.run S En0 p fun J H2 h2 ds keep Gd Y t2 S2 p2 W hG hY D hD => by
    have hN : ∀ a, (N a ∨ a = D) → N a ∨ H2 a = none := fun a z => z.imp id fun e => by rw [e]; exact hD
    have hD0 : H D = none := t2.n D hD
    have hN0 : ∀ a, (N a ∨ a = D) → N a ∨ H a = none := fun a z => z.imp id fun e => by rw [e]; exact hD0
    have tN : Tr H2 h2 (L2.upd H2 D (.lst [])) h2 := Tr.new hD
    refine lc_it W (fun i H' => ∃ h' acc accd, H' D = some (.lst acc) ∧ Tr H2 h2 H' h' ∧ Sx K XX (fun a => N a ∨ a = D) H' h' ∧ Rls K (fun a => N a ∨ a = D) H' h' acc accd ∧ lcL keep g t e (wipeD ρ vs) P (ds.drop i) accd h')
      ⟨h2, [], [], upd_same, tN, S2.more hD, .nil, p2⟩ (fun i H' _ ⟨h', acc, accd, q1, q2, q3, q4, q5⟩ => hG _ H' h' hN q2 q3 (lcL_keep q5)) (fun i x H' H4 hi ⟨h', acc, accd, q1, q2, q3, q4, q5⟩ y => ?_) fun H' ⟨h', acc, accd, q1, q2, q3, q4, q5⟩ => ?_
    · obtain ⟨d, hd, t4, _, S4, r4⟩ := hY _ i H' h' x H4 hN q2 q3 (lcL_keep q5) y
      have hdr : ds.drop i = d :: ds.drop (i + 1) := by
        have hl : i < ds.length := hi
        rw [List.drop_eq_getElem_cons hl]
        have : ds[i] = d := by simpa [hl] using hd
        rw [this]
      rw [hdr] at q5
      have E4 : En K (fun a => N a ∨ a = D) H4 h' (wipe σ vs) (wipeD ρ vs) := (((En0.mono (fun v d => Rl.hid hN0)).tr (t2.trans (q2.trans t4)))).wipe vs
      have hDn : ∀ {H' : Hp} {h' : Lh}, Sx K XX (fun a => N a ∨ a = D) H' h' → h' D = none := fun {H' h'} S' => by
        cases z : h' D with
        | none => rfl
        | some o => exact absurd (.inr rfl) (S'.at_ D o z).1
      refine G.run S4 E4 r4 q5.2.2 fun σ5 ρ5 E5 w5 p5 => ⟨by rw [w5, wipe_twice], T.run S4 E5 p5 fun b H6 h6 t6 S6 p6 => p6.on (fun z => ?_) fun z => ?_⟩
      · refine E.run S6 (E5.tr t6) z fun v d7 H7 h7 t7 S7 r7 p7 => ?_
        have tt := (t4.trans t6).trans t7
        have q17 : H7 D = some (.lst acc) := (tt.k D _ q1 (hDn q3)).1
        have tD : Tr H2 h2 (L2.upd H7 D (.lst (acc ++ [v]))) h7 := ⟨fun a o e1 e2 => by
          have ne : a ≠ D := fun z => by rw [z, hD] at e1; cases e1
          obtain ⟨z1, z2⟩ := (q2.trans tt).k a o e1 e2
          exact ⟨by rw [upd_ne ne]; exact z1, z2⟩, fun a e1 => (q2.trans tt).n a (upd_none e1)⟩
        refine ⟨acc, q17, sz_lt (by rw [q4.length]; exact q5.2.1), h7, acc ++ [v], accd ++ [d7], upd_same, tD, ⟨S7.toSim.hidUpd (.inr rfl), (S2.x.tr tD).hid fun a z => .inl z⟩, ?_, p7⟩
        · have f : ∀ a o, H7 a = some o → h7 a = none → ¬ (N a ∨ a = D) → L2.upd H7 D (.lst (acc ++ [v])) a = some o ∧ h7 a = none ∧ ¬ (N a ∨ a = D) := fun a o e1 e2 e3 => ⟨by rw [upd_ne (fun z => e3 (.inr z))]; exact e1, e2, e3⟩
          exact ((q4.tr tt).trN f).append (.cons (r7.trN f) .nil)
      · have tt := t4.trans t6
        exact ⟨h6, acc, accd, (tt.k D _ q1 (hDn q3)).1, q2.trans tt, S6, q4.tr tt, z⟩
    · rw [List.drop_length] at q5
      exact k D acc accd H' h' hD0 (t2.trans q2) q3 q1 q4 q5.2⟩
/-! ### enumerate, zip -/
@[simp] def wIEnum (a : WA) : WI := fun ρ h P => a ρ h fun es h1 => ∃ d ds, es = [d] ∧ lv h1 d = some ds ∧ P (Pd.numbered 0 ds) (fun h3 => lv h3 d = some ds) h1
instance {ta : TA} {a : WA} [A : RA K XX ta a] : RI K XX (iEnum K ta) (wIEnum a) := ⟨fun {N σ H ρ h P R} S E p k => A.run S E p fun vs es H1 h1 t1 S1 r1 ⟨d, ds, e0, e, p1⟩ => by
  subst e0
  obtain ⟨v, rfl, rv⟩ := r1.one
  obtain ⟨q, xs, rfl, t, rs⟩ := rv.lv S1 e
  have at3 : ∀ (N' : Addr → Prop) (H3 : Hp) (h3 : Lh), (∀ a, N' a → N a ∨ H1 a = none) → Tr H1 h1 H3 h3 → Sx K XX N' H3 h3 → lv h3 d = some ds → ∃ ys, SqL K H3 q ys ∧ Rls K N' H3 h3 ys ds := fun N' H3 h3 hN t3 S3 e3 => by
    obtain ⟨q', ys, e', z, r3⟩ := ((rv.hid hN).tr t3).lv S3 e3
    cases e'
    exact ⟨ys, z, r3⟩
  refine ⟨q, xs, rfl, t, k _ H1 h1 (Pd.numbered 0 ds) _ (fun H => ∃ xs, SqL K H q xs ∧ xs.length = ds.length) (fun i H v H' => ∃ T x, v = .ref T ∧ H T = none ∧ H' = upd H T (.tup [.int (i : Nat), x]) ∧ ∀ xs, SqL K H q xs → xs[i]? = some x) t1 S1 p1 (by
    rw [Pd.numbered_length]
    exact ⟨fun i H hi ⟨xs, s, l⟩ => ⟨xs, xs[i]'(by omega), s, by simp [show i < xs.length by omega]⟩, fun H ⟨xs, s, l⟩ => ⟨xs, s, by omega⟩, fun i H x H' hi _ y => y⟩) (fun N' H3 h3 hN t3 S3 kp => ?_) fun N' i H3 h3 x H4 hN t3 S3 kp yy => ?_⟩
  · obtain ⟨ys, z, r3⟩ := at3 N' H3 h3 hN t3 S3 kp
    exact ⟨ys, z, r3.length⟩
  · obtain ⟨ys, z, r3⟩ := at3 N' H3 h3 hN t3 S3 kp
    obtain ⟨T, y, rfl, hT, rfl, hx⟩ := yy
    obtain ⟨d', hd, r⟩ := r3.get (hx ys z)
    have := Pd.numbered_get ds 0 i d' hd
    rw [Nat.zero_add] at this
    exact ⟨_, this, Tr.new hT, Ex.new hT, S3.new hT, .tup (.inl ⟨.inl upd_same, S3.hn hT, S3.nn hT⟩) (.cons (.int _) (.cons (r.tr (Tr.new hT)) .nil))⟩⟩
@[simp] def wIZipS (a : WA) : WI := fun ρ h P => a ρ h fun es h1 => ∃ z d ds, es = [.str z, d] ∧ tv d = some ds ∧ z.cps.all (· < 128) = true ∧ z.cps.size = ds.length ∧ P (Pd.pairs (Pd.signs z) ds) (fun _ => True) h1
instance {ta : TA} {a : WA} [A : RA K XX ta a] : RI K XX (iZipS K ta) (wIZipS a) := ⟨fun {N σ H ρ h P R} S E p k => A.run S E p fun vs es H1 h1 t1 S1 r1 ⟨z, d, ds, e0, e, hasc, hl, p1⟩ => by
  subst e0
  obtain ⟨v, u, rfl, rv, ru⟩ := r1.two
  obtain ⟨q, xs, rfl, t, rs⟩ := ru.tup' e
  have hn : (Pd.pairs (Pd.signs z) ds).length = xs.length := by simp [Pd.pairs, Pd.signs, rs.length, hl]
  refine ⟨z, q, xs, by rw [rv.s], hasc, t.sq, k _ H1 h1 _ _ (fun H => SqT K H q xs) _ t1 S1 p1 (by rw [hn]; exact walk_zipS (by rw [rs.length]; exact hl)) (fun N' H3 h3 _ t3 _ _ => t.tr (N' := N) t3) fun N' i H3 h3 x H4 hN t3 S3 _ yy => ?_⟩
  obtain ⟨T, c, y, rfl, hT, rfl, hc, hy⟩ := yy
  obtain ⟨d', hd, r⟩ := rs.get hy
  refine ⟨.tuple [.str ⟨#[c]⟩, d'], ?_, Tr.new hT, Ex.new hT, S3.new hT, .tup (.inl ⟨.inl upd_same, S3.hn hT, S3.nn hT⟩) (.cons (.str _) (.cons (((r.hid hN).tr t3).tr (Tr.new hT)) .nil))⟩
  have hs : (Pd.signs z)[i]? = some (.str ⟨#[c]⟩) := by
    unfold Pd.signs
    rw [List.getElem?_map]
    have : z.cps.toList[i]? = some c := by simpa using hc
    rw [this]; rfl
  unfold Pd.pairs
  rw [List.getElem?_map, Pd.zip_get hs hd]; rfl⟩
end
end Wl
set_option Elab.async false
set_option linter.all false
set_option maxRecDepth 100000
set_option maxHeartbeats 2000000
/-! Wf: defs over the plain layer. -/
namespace Wl
open PySem PySem.Spec PyProof.Rows L2 Evl Pd
section
variable {K : PySem.W.Frag} {XX : XP}
theorem SpX.enter {D : DX} {t : TS} {w : (Ev' → Addr → List (Str × PyData) → Lh → Prop) → WS} {E : XK} [R : ∀ X, RS K ⟨fun _ => E, X⟩ t (w X)] {vs : List V} {H : Hp} {Q : VK} {NM : List Str} (hs : SpX K D vs H Q E) (hw : ∀ ds h P X, D ds h P X → w (fun _ => X) { nx := fun _ h' => P .none h', rt := P } (startD NM ds) h) : t { nx := fun _ H' => Q .non H', rt := Q } (L2.start NM vs) H := by
  obtain ⟨N, h, ds, P, X, S, r, d, k⟩ := hs
  exact (R _).run S (En.start r) (hw ds h P X d) ⟨fun σ ρ H' h' t S' E p => k _ _ _ _ t S' .non p, k, fun σ ρ H' h' t S' E p => p.elim, fun σ ρ H' h' t S' E p => p.elim⟩
theorem SpW.enter {D : List PyData → Lh → Wv → Prop} {t : TS} {w : WS} {E : XK} [R : RS K ⟨fun _ => E, fun _ _ _ _ => False⟩ t w] {vs : List V} {H : Hp} {Q : VK} {NM : List Str} (hs : SpW K D vs H Q E) (hw : ∀ ds h P, D ds h P → w { nx := fun _ h' => P .none h', rt := P } (startD NM ds) h) : t { nx := fun _ H' => Q .non H', rt := Q } (L2.start NM vs) H := by
  obtain ⟨N, h, ds, P, X, S, r, d, k⟩ := hs
  have k' : Ko K ⟨fun _ => E, fun _ _ _ _ => False⟩ N H h P Q := fun v d H' h' t S' r p => k v d H' h' t (S.to t S'.toSim) r p
  exact R.run (Sx.noX S.toSim) (En.start r) (hw ds h P d) ⟨fun σ ρ H' h' t S' E p => k' _ _ _ _ t S' .non p, k', fun σ ρ H' h' t S' E p => p.elim, fun σ ρ H' h' t S' E p => p.elim⟩
/-- mutable things that were made meanwhile are forgotten -/
theorem SpW.enterF {D : List PyData → Lh → Wv → Prop} {t : TS} {w : WS} {E : XK} [R : RS K ⟨fun _ => E, fun _ _ _ _ => False⟩ t w] {vs : List V} {H : Hp} {Q : VK} {NM : List Str} (hs : SpW K D vs H Q E)
    (hw : ∀ ds h P, D ds h P → w { nx := fun _ h' => (∀ a o, h a = some o → h' a = some o) ∧ P .none h, rt := fun d h' => (∀ a o, h a = some o → h' a = some o) ∧ P d h } (startD NM ds) h) : t { nx := fun _ H' => Q .non H', rt := Q } (L2.start NM vs) H := by
  obtain ⟨N, h, ds, P, X, S, r, d, k⟩ := hs
  have k' : Ko K ⟨fun _ => E, fun _ _ _ _ => False⟩ N H h (fun d h' => (∀ a o, h a = some o → h' a = some o) ∧ P d h) Q := fun v d H' h' t S' r p => by
    have t2 : Tr H h H' h := t.trans (Tr.drop p.1)
    exact k v d H' h t2 (S.to t2 (S'.toSim.drop p.1)) (r.tr (Tr.drop p.1)) p.2
  exact R.run (Sx.noX S.toSim) (En.start r) (hw ds h P d) ⟨fun σ ρ H' h' t S' E p => k' _ _ _ _ t S' .non p, k', fun σ ρ H' h' t S' E p => p.elim, fun σ ρ H' h' t S' E p => p.elim⟩
theorem k_psfld {X : Cx} {K : PySem.W.Frag} (hK : X.K = K) {o value : Expr} {f : Str} {pos pos' : Pos} {ta tv : TE} (ha : PE X o ta) (hv : PE X value tv) (hs : swapsWith value (some (.Attribute o f pos')) pos.line X.env = pure false) : PS X (.Assign [.Attribute o f pos'] value pos) (sFld K ta tv f) := by subst hK; exact ps_fld ha hv hs
theorem ps_asgRef {X : Cx} {st : Stmt} {te : TE} {g : TG} (h : PS X st (tAsg te g)) : PS X st (tAsg (tRef te) g) := h
/-- + and * of lists -/
@[simp] def fRepN (d e : PyData) (h : Lh) (P : List PyData → Lh → Prop) : Prop := ∃ ds n, isSc d = false ∧ lv h d = some ds ∧ e = .int n ∧ n ≤ 1000000 ∧ -1000000 ≤ n ∧ ds.length * n.toNat ≤ 100000 ∧ P (List.replicate n.toNat ds).flatten h
theorem Rls.rep {N : Addr → Prop} {H : Hp} {h : Lh} {xs : List V} {ds : List PyData} (r : Rls K N H h xs ds) : ∀ n : Nat, Rls K N H h (List.replicate n xs).flatten (List.replicate n ds).flatten
  | 0 => .nil
  | n + 1 => by
    rw [List.replicate_succ, List.flatten_cons, List.replicate_succ, List.flatten_cons]
    exact r.append (Rls.rep r n)
instance : R2N K rRep fRepN := ⟨fun S a c ⟨ds, n, c1, e1, e2, l1, l2, z, p⟩ k => by
  subst e2
  obtain ⟨q, xs, rfl, t1, r1⟩ := a.lvo S e1 c1
  exact ⟨q, n, xs, rfl, c.i, t1, by omega, by omega, sz_of (by rw [r1.length]; exact z), fun r hr => k.new S hr (r1.rep _) p⟩⟩
@[simp] def fRepT (d e : PyData) (h : Lh) (P : Wv) : Prop := ∃ ds n, tv d = some ds ∧ ds ≠ [] ∧ e = .int n ∧ 0 ≤ n ∧ n ≤ 1000 ∧ ds.length ≤ 1000 ∧ P (.tuple (List.replicate n.toNat ds).flatten) h
instance : R2W K (rRepA K) fRepT := ⟨fun S a c ⟨ds, n, e1, ne, e2, l1, l2, l3, p⟩ k => by
  subst e2
  obtain ⟨q, xs, rfl, t, rs⟩ := a.tup' e1
  refine ⟨q, n, xs, rfl, c.i, t.sq, fun z => ?_, l1, l2, by rw [rs.length]; exact l3, fun z => ?_, fun r hr => k.tup S hr (rs.rep _) p⟩
  · subst z; cases rs; exact ne rfl
  · subst z
    have e3 : (List.replicate (1 : Int).toNat ds).flatten = ds := by simp
    rw [e3] at p
    exact k.at S (.tup t rs) p⟩
end
section
variable {P : Program} {w : World} {K : PySem.W.Frag} {mg : Str → Option Value} {base : Heap}
theorem Cal.weak {CX : CXT} {k : Nat} {x : Str} {ps : List Str} {sp sp' : Sp} (C : Cal P w K mg base CX k x ps sp) (f : ∀ vs H Q E, sp' vs H Q E → sp vs H Q E) : Cal P w K mg base CX k x ps sp' := by
  obtain ⟨g, fd, h1, h2, h3, h4⟩ := C.ex
  exact ⟨g, fd, h1, h2, h3, ⟨fun vs H Q E z => h4.len vs H Q E (f _ _ _ _ z), fun A outer s H c us vs Q E a b d e z => h4.run A outer s H c us vs Q E a b d e (f _ _ _ _ z)⟩⟩
end
/-! ### tables of the text -/
class KTab (K : PySem.W.Frag) (w : World) (p : Addr) (look : outParam (Str → Option Str)) : Prop where
  at_ : ∀ z, ∃ r : Option Value, PySem.W.nsIn K p z = some r ∧ r.isSome = (look z).isSome ∧ ∀ f, look z = some f → KDct K w p z (.str f)
@[simp] def wTabNot (look : Str → Option Str) (a : WE) : WE := fun ρ h P => a ρ h fun d h1 => ∃ z, d = .str z ∧ P (.bool (!(look z).isSome)) h1
@[simp] def wTabIx (look : Str → Option Str) (a : WE) : WE := fun ρ h P => a ρ h fun d h1 => ∃ z v, d = .str z ∧ look z = some v ∧ P (.str v) h1
section
variable {K : PySem.W.Frag} {XX : XP} {w : World}
theorem tab_not (w : World) {p : Addr} {look : Str → Option Str} [B : KTab K w p look] {ta : TE} {a : WE} [A : RE K XX ta a] : RE K XX (tOp (rNotInKd K p) ta (tC (.ref p))) (wTabNot look a) := ⟨fun S E q k => A.run S E q fun v d H1 h1 t1 S1 r1 ⟨z, e, q1⟩ => by
  subst e
  obtain ⟨r, e1, e2, _⟩ := B.at_ z
  exact ⟨z, r, r1.s, rfl, e1, by rw [e2]; exact (k.tr t1).at S1 (.bl _) q1⟩⟩
instance (priority := high) {p : Addr} {look : Str → Option Str} [B : KTab K w p look] {ta : TE} {a : WE} [A : RE K XX ta a] : RE K XX (tOp (rIxD K w) (tC (.ref p)) ta) (wTabIx look a) := ⟨fun S E q k => A.run S E q fun v d H1 h1 t1 S1 r1 ⟨z, f, e, e2, q1⟩ => by
  subst e
  obtain ⟨r, _, _, e4⟩ := B.at_ z
  exact ⟨p, z, .str f, rfl, r1.s, e4 f e2, (k.tr t1).at S1 (.str f) q1⟩⟩
end
@[simp] theorem andA {a b c : Prop} : ((a ∧ b) ∧ c) = (a ∧ b ∧ c) := propext and_assoc
@[simp] theorem ln_1_0 {n : Nat} : ((n : Int) + 1 = 0) = False := by
  apply propext
  exact ⟨fun h => by omega, fun h => h.elim⟩
@[simp] theorem ln_2_0 {n : Nat} : ((n : Int) + 1 + 1 = 0) = False := by
  apply propext
  exact ⟨fun h => by omega, fun h => h.elim⟩
@[simp] theorem ln_2_1 {n : Nat} : ((n : Int) + 1 + 1 = 1) = False := by
  apply propext
  exact ⟨fun h => by omega, fun h => h.elim⟩
@[simp] theorem ln_3_0 {n : Nat} : ((n : Int) + 1 + 1 + 1 = 0) = False := by
  apply propext
  exact ⟨fun h => by omega, fun h => h.elim⟩
@[simp] theorem ln_3_1 {n : Nat} : ((n : Int) + 1 + 1 + 1 = 1) = False := by
  apply propext
  exact ⟨fun h => by omega, fun h => h.elim⟩
@[simp] theorem ln_3_2 {n : Nat} : ((n : Int) + 1 + 1 + 1 = 2) = False := by
  apply propext
  exact ⟨fun h => by omega, fun h => h.elim⟩
@[simp] theorem ln_4_0 {n : Nat} : ((n : Int) + 1 + 1 + 1 + 1 = 0) = False := by
  apply propext
  exact ⟨fun h => by omega, fun h => h.elim⟩
@[simp] theorem ln_4_1 {n : Nat} : ((n : Int) + 1 + 1 + 1 + 1 = 1) = False := by
  apply propext
  exact ⟨fun h => by omega, fun h => h.elim⟩
@[simp] theorem ln_4_2 {n : Nat} : ((n : Int) + 1 + 1 + 1 + 1 = 2) = False := by
  apply propext
  exact ⟨fun h => by omega, fun h => h.elim⟩
@[simp] theorem ln_4_3 {n : Nat} : ((n : Int) + 1 + 1 + 1 + 1 = 3) = False := by
  apply propext
  exact ⟨fun h => by omega, fun h => h.elim⟩
@[simp] theorem ln_5_0 {n : Nat} : ((n : Int) + 1 + 1 + 1 + 1 + 1 = 0) = False := by
  apply propext
  exact ⟨fun h => by omega, fun h => h.elim⟩
@[simp] theorem ln_5_1 {n : Nat} : ((n : Int) + 1 + 1 + 1 + 1 + 1 = 1) = False := by
  apply propext
  exact ⟨fun h => by omega, fun h => h.elim⟩
@[simp] theorem ln_5_2 {n : Nat} : ((n : Int) + 1 + 1 + 1 + 1 + 1 = 2) = False := by
  apply propext
  exact ⟨fun h => by omega, fun h => h.elim⟩
@[simp] theorem ln_5_3 {n : Nat} : ((n : Int) + 1 + 1 + 1 + 1 + 1 = 3) = False := by
  apply propext
  exact ⟨fun h => by omega, fun h => h.elim⟩
@[simp] theorem ln_5_4 {n : Nat} : ((n : Int) + 1 + 1 + 1 + 1 + 1 = 4) = False := by
  apply propext
  exact ⟨fun h => by omega, fun h => h.elim⟩
@[simp] theorem ln_6_0 {n : Nat} : ((n : Int) + 1 + 1 + 1 + 1 + 1 + 1 = 0) = False := by
  apply propext
  exact ⟨fun h => by omega, fun h => h.elim⟩
@[simp] theorem ln_6_1 {n : Nat} : ((n : Int) + 1 + 1 + 1 + 1 + 1 + 1 = 1) = False := by
  apply propext
  exact ⟨fun h => by omega, fun h => h.elim⟩
@[simp] theorem ln_6_2 {n : Nat} : ((n : Int) + 1 + 1 + 1 + 1 + 1 + 1 = 2) = False := by
  apply propext
  exact ⟨fun h => by omega, fun h => h.elim⟩
@[simp] theorem ln_6_3 {n : Nat} : ((n : Int) + 1 + 1 + 1 + 1 + 1 + 1 = 3) = False := by
  apply propext
  exact ⟨fun h => by omega, fun h => h.elim⟩
@[simp] theorem ln_6_4 {n : Nat} : ((n : Int) + 1 + 1 + 1 + 1 + 1 + 1 = 4) = False := by
  apply propext
  exact ⟨fun h => by omega, fun h => h.elim⟩
@[simp] theorem ln_6_5 {n : Nat} : ((n : Int) + 1 + 1 + 1 + 1 + 1 + 1 = 5) = False := by
  apply propext
  exact ⟨fun h => by omega, fun h => h.elim⟩
@[simp] theorem cpow_18 : CPow 10 18 = True := eq_true ⟨by decide, by decide, by decide⟩
@[simp] theorem cpow_9 : CPow 10 9 = True := eq_true ⟨by decide, by decide, by decide⟩
/-! ### places -/
@[simp] theorem atI_0 {α : Type} {a : α} {l : List α} : atI (a :: l) 0 = some a := atI_nat (j := 0) rfl
@[simp] theorem atI_1 {α : Type} {a b : α} {l : List α} : atI (a :: b :: l) 1 = some b := atI_nat (j := 1) rfl
@[simp] theorem atI_2 {α : Type} {a b c : α} {l : List α} : atI (a :: b :: c :: l) 2 = some c := atI_nat (j := 2) rfl
@[simp] theorem atI_3 {α : Type} {a b c d : α} {l : List α} : atI (a :: b :: c :: d :: l) 3 = some d := atI_nat (j := 3) rfl
@[simp] theorem atI_4 {α : Type} {a b c d e : α} {l : List α} : atI (a :: b :: c :: d :: e :: l) 4 = some e := atI_nat (j := 4) rfl
@[simp] theorem ixN_z {n : Nat} : ixN (n + 1) 0 = some 0 := ixN_nat (j := 0) (by omega)
@[simp] theorem ixN_o {n : Nat} : ixN (n + 2) 1 = some 1 := ixN_nat (j := 1) (by omega)
@[simp] theorem seqIndex_z {n : Nat} : seqIndex? 0 (n + 1) = some 0 := by
  simp [seqIndex?]
@[simp] theorem cutD_1 {l : List PyData} : Pd.cutD l (some 1) none = l.drop 1 := Pd.cutD_from 1 l
@[simp] theorem cutD_2 {l : List PyData} : Pd.cutD l (some 2) none = l.drop 2 := Pd.cutD_from 2 l
@[simp] theorem cutD_t1 {l : List PyData} : Pd.cutD l none (some 1) = l.take 1 := Pd.cutD_to 1 l
@[simp] theorem cutD_t2 {l : List PyData} : Pd.cutD l none (some 2) = l.take 2 := Pd.cutD_to 2 l
@[simp] theorem cutD_t3 {l : List PyData} : Pd.cutD l none (some 3) = l.take 3 := Pd.cutD_to 3 l
@[simp] theorem cutD_n {l : List PyData} {n : Nat} : Pd.cutD l (some (n : Int)) none = l.drop n := Pd.cutD_from n l
@[simp] theorem cutD_tn {l : List PyData} {n : Nat} : Pd.cutD l none (some (n : Int)) = l.take n := Pd.cutD_to n l
@[simp] theorem cutD_i {l : List PyData} : Pd.cutD l none (some (-1)) = l.dropLast := Pd.cutD_init l
/-! ### loops by what holds of the rest -/
theorem forL_run {keep : Lh → Prop} {g : WG} {b : WS} {E : WEnds} (I : List PyData → Ev' → Lh → Prop)
    (hs : ∀ d ds ρ h, I (d :: ds) ρ h → keep h ∧ ∀ F : Ev' → Lh → Prop, (∀ ρ h, I ds ρ h → F ρ h) → g d ρ h fun ρ1 h1 => b { nx := F, rt := E.rt, bk := E.nx, ct := F } ρ1 h1)
    (hd : ∀ ρ h, I [] ρ h → keep h ∧ E.nx ρ h) : ∀ {ds ρ h}, I ds ρ h → forL keep g b E ds ρ h
  | [], _, _, i => hd _ _ i
  | d :: ds, _, _, i => ⟨(hs _ _ _ _ i).1, (hs _ _ _ _ i).2 _ fun _ _ j => forL_run I hs hd j⟩
theorem whN_run {t : WT} {b : WS} {E : WEnds} (I : Nat → Ev' → Lh → Prop)
    (hs : ∀ n ρ h, I n ρ h → ∀ F : Ev' → Lh → Prop, (∀ m ρ h, m < n → I m ρ h → F ρ h) → t ρ h fun c h1 => wCond c (b { nx := F, rt := E.rt, bk := E.nx, ct := F } ρ h1) (E.nx ρ h1)) :
    ∀ n m ρ h, m ≤ n → I m ρ h → whN t b E (n + 1) ρ h
  | 0, m, ρ, h, l, i => hs _ _ _ i _ fun m' _ _ q _ => absurd q (by omega)
  | n + 1, m, ρ, h, l, i => hs _ _ _ i _ fun m' ρ' h' q j => whN_run I hs n m' ρ' h' (by omega) j
theorem wWhile_run {t : WT} {b : WS} {E : WEnds} {ρ : Ev'} {h : Lh} (I : Nat → Ev' → Lh → Prop) (n : Nat) (i : I n ρ h)
    (hs : ∀ n ρ h, I n ρ h → ∀ F : Ev' → Lh → Prop, (∀ m ρ h, m < n → I m ρ h → F ρ h) → t ρ h fun c h1 => wCond c (b { nx := F, rt := E.rt, bk := E.nx, ct := F } ρ h1) (E.nx ρ h1)) : wWhile t b E ρ h := ⟨n + 1, whN_run I hs n n ρ h (Nat.le_refl _) i⟩
theorem lcL_run {keep : Lh → Prop} {g : WG} {t : WT} {e : WE} {ρ : Ev'} {P : List PyData → Lh → Prop} (I : List PyData → List PyData → Lh → Prop)
    (hs : ∀ d ds acc h, I (d :: ds) acc h → keep h ∧ acc.length < 100000 ∧ ∀ F : List PyData → Lh → Prop, (∀ acc h, I ds acc h → F acc h) → g d ρ h fun ρ1 h1 => t ρ1 h1 fun b h2 => wCond b (e ρ1 h2 fun x h3 => F (acc ++ [x]) h3) (F acc h2))
    (hd : ∀ acc h, I [] acc h → keep h ∧ P acc h) : ∀ {ds acc h}, I ds acc h → lcL keep g t e ρ P ds acc h
  | [], _, _, i => hd _ _ i
  | d :: ds, _, _, i => ⟨(hs _ _ _ _ i).1, (hs _ _ _ _ i).2.1, (hs _ _ _ _ i).2.2 _ fun _ _ j => lcL_run I hs hd j⟩
/-- each thing gives one -/
theorem lcL_map {α : Type} {keep : Lh → Prop} {g : WG} {e : WE} {ρ : Ev'} {P : List PyData → Lh → Prop} {h : Lh} {l : List α} {emb : α → PyData} (f : α → PyData) (hk : keep h) (hz : l.length ≤ 100000)
    (hs : ∀ a ∈ l, ∀ F : PyData → Lh → Prop, F (f a) h → g (emb a) ρ h fun ρ1 h1 => e ρ1 h1 F) (hd : P (l.map f) h) : lcL keep g wYes e ρ P (l.map emb) [] h := by
  have key : ∀ (m k : List α), k ++ m = l → lcL keep g wYes e ρ P (m.map emb) (k.map f) h := by
    intro m
    induction m with
    | nil => intro k q; rw [List.append_nil] at q; subst q; exact ⟨hk, hd⟩
    | cons a m ih =>
      intro k q
      refine ⟨hk, by rw [List.length_map]; have := congrArg List.length q; simp at this; omega, ?_⟩
      have ih' := ih (k ++ [a]) (by rw [List.append_assoc]; exact q)
      rw [List.map_append] at ih'
      have hm : a ∈ l := by rw [← q]; simp
      have := hs a hm (fun x h3 => lcL keep g wYes e ρ P (m.map emb) (k.map f ++ [x]) h3) ih'
      simp only [wYes, wCond_t]
      exact this
  exact key l [] rfl
/-! ### the tape -/
structure TapeOk (t c : Addr) (h : Lh) : Prop where
  ne : c ≠ t
  tp : ∃ s : Int, h t = some (.lst [rf c, .int s]) ∧ 0 ≤ s ∧ s < 2147483647
  ce : ∃ ns : List Int, h c = some (.lst (ns.map .int)) ∧ ns.length ≤ 63 ∧ ∀ n ∈ ns, 0 ≤ n
/-- behind a draw -/
structure TapeGo (t c : Addr) (h h' : Lh) : Prop where
  ok : TapeOk t c h'
  fr : ∀ a o, a ≠ t → a ≠ c → h a = some o → h' a = some o
theorem TapeGo.refl {t c : Addr} {h : Lh} (T : TapeOk t c h) : TapeGo t c h h := ⟨T, fun _ _ _ _ e => e⟩
theorem TapeGo.trans {t c : Addr} {h h1 h2 : Lh} (a : TapeGo t c h h1) (b : TapeGo t c h1 h2) : TapeGo t c h h2 := ⟨b.ok, fun x o n1 n2 e => b.fr x o n1 n2 (a.fr x o n1 n2 e)⟩
theorem TapeOk.ex {t c : Addr} {h h' : Lh} (T : TapeOk t c h) (f : ∀ a o, h a = some o → h' a = some o) : TapeOk t c h' := by
  obtain ⟨ne, ⟨s, e, b⟩, ns, e2, b2⟩ := T
  exact ⟨ne, ⟨s, f _ _ e, b⟩, ns, f _ _ e2, b2⟩
/-- something is made meanwhile -/
theorem TapeGo.ex {t c : Addr} {h h' : Lh} (T : TapeOk t c h) (f : ∀ a o, h a = some o → h' a = some o) : TapeGo t c h h' := ⟨T.ex f, fun a o _ _ e => f a o e⟩
theorem up_ex {h : Lh} {p : Addr} {o : LO} (n : h p = none) : ∀ a u, h a = some u → up h p o a = some u := fun a u z => by rw [up_ne (fun q => by rw [q, n] at z; cases z)]; exact z
theorem TapeOk.has {t c : Addr} {h : Lh} (T : TapeOk t c h) : (∃ o, h t = some o) ∧ ∃ o, h c = some o := by
  obtain ⟨ne, ⟨s, e, b⟩, ns, e2, b2⟩ := T
  exact ⟨⟨_, e⟩, _, e2⟩
/-- another object is written meanwhile -/
theorem TapeOk.put {t c p : Addr} {h : Lh} {o : LO} (T : TapeOk t c h) (n1 : p ≠ t) (n2 : p ≠ c) : TapeOk t c (up h p o) := by
  obtain ⟨ne, ⟨s, e, b⟩, ns, e2, b2⟩ := T
  exact ⟨ne, ⟨s, by rw [up_ne (Ne.symm n1)]; exact e, b⟩, ns, by rw [up_ne (Ne.symm n2)]; exact e2, b2⟩
def D_tape (ds : List PyData) (h : Lh) (P : Wv) : Prop := ∃ ns : List Int, ds = [.dict [(.none, .tuple (ns.map .int))]] ∧ ns.length ≤ 63 ∧ ∀ t c h', h t = none → h c = none → TapeGo t c h h' → P (rf t) h'
def D_draw (ds : List PyData) (h : Lh) (P : Wv) : Prop := ∃ (t c : Addr) (m : Nat), ds = [rf t, .int (m : Nat)] ∧ TapeOk t c h ∧ 1 ≤ m ∧ m ≤ 1000 ∧ ∀ r : Nat, r < m → ∀ h', TapeGo t c h h' → P (.int (r : Nat)) h'
theorem D_draw_run {t c : Addr} {m : Nat} {h : Lh} {P : Wv} (T : TapeOk t c h) (h1 : 1 ≤ m) (h2 : m ≤ 1000) (k : ∀ r : Nat, r < m → ∀ h', TapeGo t c h h' → P (.int (r : Nat)) h') : D_draw [rf t, .int (m : Nat)] h P := ⟨t, c, m, rfl, T, h1, h2, k⟩
def D_pick (ds : List PyData) (h : Lh) (P : Wv) : Prop := ∃ (t c : Addr) (es : List PyData), ds = [rf t, .list es] ∧ TapeOk t c h ∧ es ≠ [] ∧ es.length ≤ 1000 ∧ ∀ x ∈ es, ∀ h', TapeGo t c h h' → P x h'
theorem D_pick_run {t c : Addr} {es : List PyData} {h : Lh} {P : Wv} (T : TapeOk t c h) (h1 : es ≠ []) (h2 : es.length ≤ 1000) (k : ∀ x ∈ es, ∀ h', TapeGo t c h h' → P x h') : D_pick [rf t, .list es] h P := ⟨t, c, es, rfl, T, h1, h2, k⟩
end Wl
set_option Elab.async false
set_option linter.all false
set_option maxRecDepth 100000
set_option maxHeartbeats 2000000
/-! Wg: exceptions over the plain layer. -/
namespace Wl
open PySem PySem.Spec PyProof.Rows L2 Evl Pd
abbrev XB := Addr → List (Str × PyData) → Lh → Prop
abbrev WX' := Ev' → Lh → XB → Prop
class RX (K : PySem.W.Frag) (XX : XP) (t : L2.St → Hp → XK → Prop) (w : outParam WX') : Prop where
  run : ∀ {N : Addr → Prop} {σ : L2.St} {H : Hp} {ρ : Ev'} {h : Lh} {X : XB} {E : XK}, Sx K XX N H h → En K N H h σ ρ → w ρ h X → (∀ C d fs H' h', Tr H h H' h' → Sim K N H' h' → XRel K N H' h' d fs → X C fs h' → E (.ref C) d H') → t σ H E
/-- raise -/
def tRz (t : L2.St → Hp → XK → Prop) (E : L2.St → XK) : TS := fun _ σ H => t σ H (E σ)
@[simp] def wRz (w : WX') (X : Ev' → XB) : WS := fun _ ρ h => w ρ h (X ρ)
theorem k_raise {X : Cx} {E : XK} {e : Expr} {t : L2.St → Hp → XK → Prop} {pos : Pos} (hc : X.calm = true) (tk : Takes X (fun cls d _ H => E cls d H)) (he : PMk X e t) : PS X (.Raise (some e) none pos) (tRz t fun _ => E) := ps_raise hc tk he
theorem k_raiseW {X : Cx} {W : WX} {e : Expr} {t : L2.St → Hp → XK → Prop} {pos : Pos} (hc : X.calm = true) (tk : Takes X W) (he : PMk X e t) : PS X (.Raise (some e) none pos) (tRz t (L2.WE W)) := ps_raise hc tk he
def tMkX (C : Addr) : L2.St → Hp → XK → Prop := fun _ H Q => Q (.ref C) none H
theorem k_mkx {X : Cx} {x : Str} {C : Addr} {p pos : Pos} (T : XCls X.K X.mg x C) (hg : Gl X x) (hdb : (x == ("__debug__" : Str)) = false := by decide) : PMk X (.Call (.Name x p) [] [] pos) (tMkX C) := pmk_x T hg hdb
@[simp] def wMkX (C : Addr) : WX' := fun _ h X => X C [] h
@[simp] def wMkF (C : Addr) (f : Str) (a : WA) : WX' := fun ρ h X => a ρ h fun ds h1 => ∃ d, ds = [d] ∧ X C [(f, d)] h1
section
variable {K : PySem.W.Frag} {XX : XP}
instance {t : L2.St → Hp → XK → Prop} {w : WX'} {E : L2.St → XK} {X : Ev' → XB} [R : RX K ⟨E, X⟩ t w] : RS K ⟨E, X⟩ (tRz t E) (wRz w X) := ⟨fun S e p k => R.run S e p fun C d fs H' h' t S' xr q => S.x _ _ C d fs H' h' t S' (e.tr t) xr q⟩
instance (C : Addr) : RX K XX (tMkX C) (wMkX C) := ⟨fun S e p k => k C none [] _ _ (Tr.refl _ _) S.toSim rfl p⟩
instance {C : Addr} {f : Str} {ta : TA} {a : WA} [A : RA K XX ta a] : RX K XX (tMkO C (sp_fld C f) [] ta) (wMkF C f a) := ⟨fun {N σ H ρ h X E} S e p k =>
  A.run S e p fun vs ds H1 h1 t1 S1 r1 ⟨d0, ed, q⟩ => by
    subst ed
    obtain ⟨v, rfl, rv⟩ := r1.one
    refine ⟨by show 1 ≤ 1000; omega, fun a ha => ⟨a, v, rfl, upd_same, fun dx hdx hne => ⟨rfl, dx, [(f, v)], upd_same, by rw [upd_ne hne, upd_same], ?_, ?_⟩⟩⟩
    · rw [upd_ne hne] at hdx; exact hdx
    · have hd1 : H1 dx = none := by rw [upd_ne hne] at hdx; exact hdx
      have e2 : Ex H1 (L2.upd (L2.del (L2.upd (L2.upd (L2.upd H1 a (exo a C none)) dx (exd dx [(f, v)])) a (exo a C (some dx))) a) dx (.xd [(f, v)])) := fun b o hb => by
        have h1 : b ≠ a := fun z => by rw [z, ha] at hb; cases hb
        have h2 : b ≠ dx := fun z => by rw [z, hd1] at hb; cases hb
        rw [upd_ne h2, del_ne h1, upd_ne h1, upd_ne h2, upd_ne h1]
        exact hb
      exact k C (some dx) [(f, d0)] _ h1 (t1.trans (Tr.ex e2)) (S1.toSim.ex e2) ⟨_, upd_same, .cons ⟨rfl, rv.tr (Tr.ex e2)⟩ .nil⟩ q⟩
end
/-- try .. except C -/
def tTryO (K : PySem.W.Frag) (c : Value) (tb : WX → TS) (ts : Addr → Value → Option Addr → TS) (Wout : WX) : TS := fun D σ H => tb (wOnly K c ts Wout D) D σ H
theorem k_tryO {X : Cx} {K : PySem.W.Frag} (hK : X.K = K) {x : Str} {c : Value} {body suite : List Stmt} {b₀ : Stmt} {np pos pos' : Pos} {tb : WX → TS} {ts : Addr → Value → Option Addr → TS} {Wout : WX} (hs : X.stack = X.env :: X.outer) (hf : X.env.frame = some X.env.locals) (hc : Names X x c) (tk : Takes X Wout)
    (hb : ∀ (W : WX) (pn : List (Addr × Obj)) (xe : Value → Shared → Prop), Takes (X.tr pn xe) W → PassesOwn (model X.prog X.w) X.A X.env xe → PSs (X.tr pn xe) body (tb W))
    (hsu : ∀ (a : Addr) (oe : Obj) (cls : Value) (d : Option Addr) (pn : List (Addr × Obj)), Zc cls d oe → (∃ vs, oe.data = .fields vs) → PSs (X.suite a ((a, oe) :: pn)) (b₀ :: suite) (ts a cls d)) :
    PS X (.Try body [.ExceptHandler (some (.Name x np)) none (b₀ :: suite) pos'] [] [] pos) (tTryO K c tb ts Wout) := by subst hK; exact ps_try_only hs hf hc tk hb hsu
def xTry (K : PySem.W.Frag) (c : Value) (ws : WS) (E : WEnds) (Xo : Ev' → XB) : Ev' → XB := fun ρ C fs h => ∃ b, PySem.W.exmOne K (.ref C) c = some b ∧ wCond b (ws E ρ h) (Xo ρ C fs h)
@[simp] def wTryO (K : PySem.W.Frag) (c : Value) (wb : (Ev' → XB) → WS) (ws : WS) (Xo : Ev' → XB) : WS := fun E ρ h => wb (xTry K c ws E Xo) E ρ h
instance {K : PySem.W.Frag} {XX : XP} {c : Value} {tb : WX → TS} {ts : Addr → Value → Option Addr → TS} {wb : (Ev' → XB) → WS} {ws : WS} [B : ∀ (W : WX) (X : Ev' → XB), RS K ⟨L2.WE W, X⟩ (tb W) (wb X)] [U : ∀ a cls d, RS K XX (ts a cls d) ws] :
    RS K XX (tTryO K c tb ts (fun _ _ _ _ => False)) (wTryO K c wb ws fun _ _ _ _ => False) := ⟨fun {N σ H ρ h E D} S e p k =>
  (B (wOnly K c ts (fun _ _ _ _ => False) D) (xTry K c ws E fun _ _ _ _ => False)).run ⟨S.toSim, fun σ' ρ' C d fs H' h' t S' e' xr ⟨b, eb, cond⟩ => ⟨b, eb, fun hb a ha => (U a (.ref C) d).run (S.to t S') e' (cond.1 hb) (k.tr t), fun hb => (cond.2 hb).elim⟩⟩ e p
    ⟨fun σ' ρ' H' h' t S' => k.nx σ' ρ' H' h' t (S.to t S'.toSim), fun v d H' h' t S' => k.rt v d H' h' t (S.to t S'.toSim), fun σ' ρ' H' h' t S' => k.bk σ' ρ' H' h' t (S.to t S'.toSim), fun σ' ρ' H' h' t S' => k.ct σ' ρ' H' h' t (S.to t S'.toSim)⟩⟩
instance {K : PySem.W.Frag} {E0 : XK} {Xo : Ev' → XB} {c : Value} {tb : WX → TS} {ts : Addr → Value → Option Addr → TS} {wb : (Ev' → XB) → WS} {ws : WS} [B : ∀ (W : WX) (X : Ev' → XB), RS K ⟨L2.WE W, X⟩ (tb W) (wb X)] [U : ∀ a cls d, RS K ⟨fun _ => E0, Xo⟩ (ts a cls d) ws] :
    RS K ⟨fun _ => E0, Xo⟩ (tTryO K c tb ts (fun cls d _ H => E0 cls d H)) (wTryO K c wb ws Xo) := ⟨fun {N σ H ρ h E D} S e p k =>
  (B (wOnly K c ts (fun cls d _ H => E0 cls d H) D) (xTry K c ws E Xo)).run ⟨S.toSim, fun σ' ρ' C d fs H' h' t S' e' xr ⟨b, eb, cond⟩ => ⟨b, eb, fun hb a ha => (U a (.ref C) d).run (S.to t S') e' (cond.1 hb) (k.tr t), fun hb => S.x σ' ρ' C d fs H' h' t S' e' xr (cond.2 hb)⟩⟩ e p
    ⟨fun σ' ρ' H' h' t S' => k.nx σ' ρ' H' h' t (S.to t S'.toSim), fun v d H' h' t S' => k.rt v d H' h' t (S.to t S'.toSim), fun σ' ρ' H' h' t S' => k.bk σ' ρ' H' h' t (S.to t S'.toSim), fun σ' ρ' H' h' t S' => k.ct σ' ρ' H' h' t (S.to t S'.toSim)⟩⟩
/-- for defs with a try: the body's instance is to be given under its binders -/
theorem rs_try {K : PySem.W.Frag} {XX : XP} {c : Value} {tb : WX → TS} {ts : Addr → Value → Option Addr → TS} {wb : (Ev' → XB) → WS} {ws : WS} (B : ∀ (W : WX) (X : Ev' → XB), RS K ⟨L2.WE W, X⟩ (tb W) (wb X)) [U : ∀ a cls d, RS K XX (ts a cls d) ws] :
    RS K XX (tTryO K c tb ts (fun _ _ _ _ => False)) (wTryO K c wb ws fun _ _ _ _ => False) := inferInstance
theorem rs_seq {K : PySem.W.Frag} {XX : XP} {ta tb : TS} {a b : WS} (A : RS K XX ta a) [B : RS K XX tb b] : RS K XX (tSeq ta tb) (wSeq a b) := inferInstance
end Wl
set_option Elab.async false
set_option linter.all false
set_option maxRecDepth 100000
set_option maxHeartbeats 2000000
/-! Wh: dicts over the plain layer (keys: ints and texts). -/
namespace Wl
open PySem PySem.Spec PyProof.Rows L2 Evl Pd
section
variable {κ : Type} [DecidableEq κ]
def valD (kvs : List (κ × PyData)) (k : κ) : Option PyData := (kvs.find? fun kv => decide (kv.1 = k)).map (·.2)
@[simp] theorem valD_nil {k : κ} : valD ([] : List (κ × PyData)) k = none := rfl
@[simp] theorem valD_cons {p : κ × PyData} {r : List (κ × PyData)} {k : κ} : valD (p :: r) k = if p.1 = k then some p.2 else valD r k := by
  unfold valD
  rw [List.find?_cons]
  by_cases h : p.1 = k
  · rw [decide_eq_true h, if_pos h]; rfl
  · rw [decide_eq_false h, if_neg h]
def putD : List (κ × PyData) → κ → PyData → List (κ × PyData)
  | [], k, v => [(k, v)]
  | p :: r, k, v => if p.1 = k then (p.1, v) :: r.map (fun kv => if kv.1 = k then (kv.1, v) else kv) else p :: putD r k v
@[simp] theorem putD_nil {k : κ} {v : PyData} : putD ([] : List (κ × PyData)) k v = [(k, v)] := rfl
theorem putV_nil {k : κ} {v : V} : L2.putK ([] : List (κ × V)) k v = [(k, v)] := rfl
theorem putV_cons {p : κ × V} {r : List (κ × V)} {k : κ} {v : V} : L2.putK (p :: r) k v = if p.1 = k then (p.1, v) :: r.map (fun kv => if kv.1 = k then (kv.1, v) else kv) else p :: L2.putK r k v := by
  unfold L2.putK
  rw [List.any_cons]
  by_cases h : p.1 = k
  · rw [decide_eq_true h, Bool.true_or, if_pos rfl, if_pos h, List.map_cons, if_pos h]
  · rw [decide_eq_false h, Bool.false_or, if_neg h]
    by_cases g : (r.any fun kv => decide (kv.1 = k)) = true
    · rw [if_pos g, if_pos g, List.map_cons, if_neg h]
    · rw [if_neg g, if_neg g]; rfl
variable {K : PySem.W.Frag} {N : Addr → Prop} {H : Hp} {h : Lh}
abbrev KP (κ : Type) (K : PySem.W.Frag) (N : Addr → Prop) (H : Hp) (h : Lh) : List (κ × V) → List (κ × PyData) → Prop := Paired fun (p : κ × V) (q : κ × PyData) => p.1 = q.1 ∧ Rl K N H h p.2 q.2
theorem KP.val {k : κ} : ∀ {xs : List (κ × V)} {ds : List (κ × PyData)}, KP κ K N H h xs ds → (valD ds k = none → valV xs k = none) ∧ ∀ d, valD ds k = some d → ∃ v, valV xs k = some v ∧ Rl K N H h v d
  | _, _, .nil => ⟨fun _ => rfl, fun d e => by cases e⟩
  | (a, x) :: xs, (b, y) :: ds, .cons e r => by
    obtain ⟨e1, e2⟩ := e
    cases e1
    have ih := KP.val (k := k) r
    rw [valD_cons]
    by_cases c : a = k
    · rw [if_pos c, valV_pos c]
      exact ⟨fun z => by (cases z), fun d z => by cases z; exact ⟨_, rfl, e2⟩⟩
    · rw [if_neg c, valV_neg c]; exact ih
theorem KP.map {k : κ} {v : V} {d : PyData} (rv : Rl K N H h v d) : ∀ {xs : List (κ × V)} {ds : List (κ × PyData)}, KP κ K N H h xs ds → KP κ K N H h (xs.map fun kv => if kv.1 = k then (kv.1, v) else kv) (ds.map fun kv => if kv.1 = k then (kv.1, d) else kv)
  | _, _, .nil => .nil
  | (a, x) :: xs, (b, y) :: ds, .cons e r => by
    obtain ⟨e1, e2⟩ := e
    cases e1
    rw [List.map_cons, List.map_cons]
    by_cases c : a = k
    · rw [if_pos c, if_pos c]; exact .cons ⟨rfl, rv⟩ (KP.map rv r)
    · rw [if_neg c, if_neg c]; exact .cons ⟨rfl, e2⟩ (KP.map rv r)
theorem KP.put {k : κ} {v : V} {d : PyData} (rv : Rl K N H h v d) : ∀ {xs : List (κ × V)} {ds : List (κ × PyData)}, KP κ K N H h xs ds → KP κ K N H h (L2.putK xs k v) (putD ds k d)
  | _, _, .nil => .cons ⟨rfl, rv⟩ .nil
  | (a, x) :: xs, (b, y) :: ds, .cons e r => by
    obtain ⟨e1, e2⟩ := e
    cases e1
    rw [putV_cons, putD]
    by_cases c : a = k
    · rw [if_pos c, if_pos c]; exact .cons ⟨rfl, rv⟩ (KP.map rv r)
    · rw [if_neg c, if_neg c]; exact .cons ⟨rfl, e2⟩ (KP.put rv r)
theorem KP.len : ∀ {xs : List (κ × V)} {ds : List (κ × PyData)}, KP κ K N H h xs ds → xs.length = ds.length := Paired.len
theorem KP.tr {H' : Hp} {h' : Lh} (t : Tr H h H' h') {xs : List (κ × V)} {ds : List (κ × PyData)} (r : KP κ K N H h xs ds) : KP κ K N H' h' xs ds := Paired.mono2 (fun a b z => ⟨z.1, z.2.tr t⟩) r
end
def keyD : PyData → Option Key
  | .int i => some (.inl i)
  | .str s => some (.inr s)
  | _ => none
@[simp] theorem keyD_int {i : Int} : keyD (.int i) = some (.inl i) := rfl
@[simp] theorem keyD_str {i : Str} : keyD (.str i) = some (.inr i) := rfl
section
variable {K : PySem.W.Frag} {XX : XP} {N : Addr → Prop} {H : Hp} {h : Lh}
theorem Rl.key {v : V} {d : PyData} {k : Key} (r : Rl K N H h v d) (e : keyD d = some k) : v = kV k := by
  cases d with
  | int i => cases e; exact r.i
  | str s => cases e; exact r.s
  | _ => cases e
theorem Sim.dK {a : Addr} {kvs : List (Key × PyData)} (S : Sim K N H h) (e : h a = some (.dK kvs)) : ∃ xs, H a = some (.dK xs) ∧ KP Key K N H h xs kvs := by
  obtain ⟨n, u, z, k⟩ := S.at_ a _ e
  cases k with
  | dK k => exact ⟨_, z, k⟩
@[simp] def wDGet (a b : WE) : WE := fun ρ h P => a ρ h fun d h1 => b ρ h1 fun y h2 => ∃ p kvs k v, d = rf p ∧ h2 p = some (.dK kvs) ∧ keyD y = some k ∧ valD kvs k = some v ∧ P v h2
instance {td ty : TE} {a b : WE} [A : RE K XX td a] [B : RE K XX ty b] : RE K XX (tDGet td ty) (wDGet a b) := ⟨fun S E p k =>
  A.run S E p fun v d H1 h1 t1 S1 r1 p1 => B.run S1 (E.tr t1) p1 fun y yd H2 h2 t2 S2 r2 ⟨q, kvs, kk, x, e1, e2, e3, e4, p2⟩ => by
    obtain ⟨xs, z, r⟩ := S2.toSim.dK e2
    obtain ⟨u, hu, ru⟩ := (KP.val r).2 x e4
    refine ⟨q, u, (r1.tr t2).r (a := q) (by rw [e1]; exact asR_rf q), ?_, (k.tr (t1.trans t2)).at S2 ru p2⟩
    rw [r2.key e3, ← hu]
    exact DGet.k z⟩
@[simp] def wDGet2 (a b c : WE) : WE := fun ρ h P => a ρ h fun d h1 => (∃ p kvs, d = rf p ∧ h1 p = some (.dK kvs)) ∧ b ρ h1 fun y h2 => c ρ h2 fun z h3 => ∃ p kvs k, d = rf p ∧ h3 p = some (.dK kvs) ∧ keyD y = some k ∧ P ((valD kvs k).getD z) h3
instance {td ty tx : TE} {a b c : WE} [A : RE K XX td a] [B : RE K XX ty b] [C : RE K XX tx c] : RE K XX (tDGet2 td ty tx) (wDGet2 a b c) := ⟨fun S E p k =>
  A.run S E p fun v d H1 h1 t1 S1 r1 ⟨⟨q0, kvs0, e01, e02⟩, p1⟩ => by
    obtain ⟨xs0, z0, _⟩ := S1.toSim.dK e02
    refine ⟨q0, r1.r (a := q0) (by rw [e01]; exact asR_rf q0), .inl ⟨xs0, .inl z0⟩, B.run S1 (E.tr t1) p1 fun y yd H2 h2 t2 S2 r2 p2 => C.run S2 (E.tr (t1.trans t2)) p2 fun w wd H3 h3 t3 S3 r3 ⟨q, kvs, kk, e1, e2, e3, p3⟩ => ?_⟩
    obtain ⟨xs, z, r⟩ := S3.toSim.dK e2
    have eq : q0 = q := by
      have h1 := r1.r (a := q0) (by rw [e01]; exact asR_rf q0)
      have h2 := r1.r (a := q) (by rw [e1]; exact asR_rf q)
      rw [h1] at h2; cases h2; rfl
    subst eq
    refine ⟨valV xs kk, ?_, ?_⟩
    · rw [(r2.tr t3).key e3]; exact DGet.k z
    · cases hv : valD kvs kk with
      | none =>
        rw [hv] at p3
        rw [(KP.val r).1 hv]
        exact (k.tr ((t1.trans t2).trans t3)).at S3 r3 p3
      | some x =>
        rw [hv] at p3
        obtain ⟨u, hu, ru⟩ := (KP.val r).2 x hv
        rw [hu]
        exact (k.tr ((t1.trans t2).trans t3)).at S3 ru p3⟩
@[simp] def wDIn (neg : Bool) (b a : WE) : WE := fun ρ h P => b ρ h fun y h1 => a ρ h1 fun d h2 => ∃ p kvs k, d = rf p ∧ h2 p = some (.dK kvs) ∧ keyD y = some k ∧ P (.bool (if neg then !(valD kvs k).isSome else (valD kvs k).isSome)) h2
theorem KP.some {kvs : List (Key × PyData)} {xs : List (Key × V)} {k : Key} (r : KP Key K N H h xs kvs) : (valV xs k).isSome = (valD kvs k).isSome := by
  cases hv : valD kvs k with
  | none => rw [(KP.val r).1 hv]; rfl
  | some x => obtain ⟨u, hu, _⟩ := (KP.val r).2 x hv; rw [hu]; rfl
instance {td ty : TE} {a b : WE} [A : RE K XX td a] [B : RE K XX ty b] : RE K XX (tDIn ty td) (wDIn false b a) := ⟨fun S E p k =>
  B.run S E p fun y yd H1 h1 t1 S1 r1 p1 => A.run S1 (E.tr t1) p1 fun v d H2 h2 t2 S2 r2 ⟨q, kvs, kk, e1, e2, e3, p2⟩ => by
    obtain ⟨xs, z, r⟩ := S2.toSim.dK e2
    refine ⟨q, valV xs kk, r2.r (a := q) (by rw [e1]; exact asR_rf q), ?_, ?_⟩
    · rw [(r1.tr t2).key e3]; exact DGet.k z
    · rw [KP.some r]; exact (k.tr (t1.trans t2)).at S2 (.bl _) p2⟩
instance {td ty : TE} {a b : WE} [A : RE K XX td a] [B : RE K XX ty b] : RE K XX (tDNotIn ty td) (wDIn true b a) := ⟨fun S E p k =>
  B.run S E p fun y yd H1 h1 t1 S1 r1 p1 => A.run S1 (E.tr t1) p1 fun v d H2 h2 t2 S2 r2 ⟨q, kvs, kk, e1, e2, e3, p2⟩ => by
    obtain ⟨xs, z, r⟩ := S2.toSim.dK e2
    refine ⟨q, valV xs kk, r2.r (a := q) (by rw [e1]; exact asR_rf q), ?_, ?_⟩
    · rw [(r1.tr t2).key e3]; exact DGet.k z
    · rw [KP.some r]; exact (k.tr (t1.trans t2)).at S2 (.bl _) p2⟩
/-- d[k] = v -/
@[simp] def wDPut (a b c : WE) : WS := fun E ρ h => c ρ h fun v h1 => a ρ h1 fun d h2 => b ρ h2 fun y h3 => ∃ p kvs k, d = rf p ∧ h3 p = some (.dK kvs) ∧ keyD y = some k ∧ kvs.length < 100000 ∧ E.nx ρ (up h3 p (.dK (putD kvs k v)))
instance {td ty tv : TE} {a b c : WE} [A : RE K XX td a] [B : RE K XX ty b] [C : RE K XX tv c] : RS K XX (sDPut td ty tv) (wDPut a b c) := ⟨fun {N σ H ρ h E D} S e p k =>
  C.run S e p fun v vd H1 h1 t1 S1 r1 p1 => A.run S1 (e.tr t1) p1 fun x d H2 h2 t2 S2 r2 p2 => B.run S2 (e.tr (t1.trans t2)) p2 fun y yd H3 h3 t3 S3 r3 ⟨q, kvs, kk, e1, e2, e3, l, p3⟩ => by
    obtain ⟨xs, z, r⟩ := S3.toSim.dK e2
    have hp : H3 q = none ∨ h3 q ≠ none := .inr (by rw [e2]; intro z; cases z)
    have t := (t1.trans t2).trans t3
    have t4 : Tr H3 h3 (L2.upd H3 q (.dK (L2.putK xs kk v))) (up h3 q (.dK (putD kvs kk vd))) := Tr.put hp
    refine ⟨q, _, (r2.tr t3).r (a := q) (by rw [e1]; exact asR_rf q), ?_, k.nx _ _ _ _ (t.trans t4) (S3.put hp (.dK (KP.put (r1.tr (t2.trans t3)) r))) (e.tr (t.trans t4)) p3⟩
    rw [r3.key e3]
    exact DPut.k z (sz_lt (by rw [KP.len r]; exact l))⟩
/-! displays -/
abbrev WP := Ev' → Lh → (List (PyData × PyData) → Lh → Prop) → Prop
class RP (K : PySem.W.Frag) (XX : XP) (trs : List (TE × TE)) (w : outParam WP) : Prop where
  run : ∀ {N : Addr → Prop} {σ : L2.St} {H : Hp} {ρ : Ev'} {h : Lh} {P : List (PyData × PyData) → Lh → Prop} {Q : List (V × V) → Hp → Prop}, Sx K XX N H h → En K N H h σ ρ → w ρ h P →
    (∀ vs ds H' h', Tr H h H' h' → Sx K XX N H' h' → Paired (fun (p : V × V) (q : PyData × PyData) => Rl K N H' h' p.1 q.1 ∧ Rl K N H' h' p.2 q.2) vs ds → P ds h' → Q vs H') → tPairs trs σ H Q
@[simp] def wP0 : WP := fun _ h P => P [] h
@[simp] def wP1 (a b : WE) (r : WP) : WP := fun ρ h P => a ρ h fun d h1 => b ρ h1 fun e h2 => r ρ h2 fun ps h3 => P ((d, e) :: ps) h3
instance : RP K XX [] wP0 := ⟨fun S e p k => k _ _ _ _ (Tr.refl _ _) S .nil p⟩
instance {ta tb : TE} {trs : List (TE × TE)} {a b : WE} {r : WP} [A : RE K XX ta a] [B : RE K XX tb b] [R : RP K XX trs r] : RP K XX ((ta, tb) :: trs) (wP1 a b r) := ⟨fun S e p k =>
  A.run S e p fun v d H1 h1 t1 S1 r1 p1 => B.run S1 (e.tr t1) p1 fun y yd H2 h2 t2 S2 r2 p2 => R.run S2 (e.tr (t1.trans t2)) p2 fun vs ds H3 h3 t3 S3 r3 p3 => k _ _ _ _ ((t1.trans t2).trans t3) S3 (.cons ⟨r1.tr (t2.trans t3), r2.tr t3⟩ r3) p3⟩
def kvsD : List (PyData × PyData) → Option (List (Key × PyData))
  | [] => some []
  | (k, v) :: r => match keyD k, kvsD r with
    | some k, some r => some ((k, v) :: r)
    | _, _ => none
@[simp] theorem kvsD_nil : kvsD [] = some [] := rfl
@[simp] theorem kvsD_str {s : Str} {v : PyData} {r : List (PyData × PyData)} : kvsD ((.str s, v) :: r) = (kvsD r).map ((.inr s, v) :: ·) := by
  rw [kvsD]
  cases kvsD r <;> rfl
@[simp] theorem kvsD_int {s : Int} {v : PyData} {r : List (PyData × PyData)} : kvsD ((.int s, v) :: r) = (kvsD r).map ((.inl s, v) :: ·) := by
  rw [kvsD]
  cases kvsD r <;> rfl
theorem kvsD_ok {N : Addr → Prop} {H : Hp} {h : Lh} : ∀ {vs : List (V × V)} {ds : List (PyData × PyData)} {kvs : List (Key × PyData)}, Paired (fun (p : V × V) (q : PyData × PyData) => Rl K N H h p.1 q.1 ∧ Rl K N H h p.2 q.2) vs ds → kvsD ds = some kvs → ∃ xs : List (Key × V), vs = xs.map (fun kv => (kV kv.1, kv.2)) ∧ KP Key K N H h xs kvs
  | _, _, _, .nil, e => by cases e; exact ⟨[], rfl, .nil⟩
  | (a, x) :: vs, (b, y) :: ds, kvs, .cons z r, e => by
    unfold kvsD at e
    cases hk : keyD b with
    | none => rw [hk] at e; cases e
    | some k =>
      cases hr : kvsD ds with
      | none => rw [hk, hr] at e; cases e
      | some rs =>
        rw [hk, hr] at e
        cases e
        obtain ⟨xs, rfl, rr⟩ := kvsD_ok r hr
        refine ⟨(k, x) :: xs, ?_, .cons ⟨rfl, z.2⟩ rr⟩
        have := z.1.key hk
        simp at this
        rw [this]; rfl
@[simp] def mergeD (kvs : List (Key × PyData)) : List (Key × PyData) → List (Key × PyData)
  | [] => kvs
  | (k, v) :: r => mergeD (putD kvs k v) r
theorem KP.merge {N : Addr → Prop} {H : Hp} {h : Lh} : ∀ {ys : List (Key × V)} {es : List (Key × PyData)} {xs : List (Key × V)} {ds : List (Key × PyData)}, KP Key K N H h ys es → KP Key K N H h xs ds → KP Key K N H h (mergeK xs ys) (mergeD ds es)
  | _, _, _, _, .nil, r => r
  | (a, x) :: ys, (b, y) :: es, xs, ds, .cons z q, r => by
    obtain ⟨z1, z2⟩ := z
    cases z1
    show KP Key K N H h (mergeK (L2.putK xs a x) ys) (mergeD (putD ds a y) es)
    exact KP.merge q (KP.put z2 r)
/-- a dict is always mutable -/
@[simp] def wDisp (r : WP) : WE := fun ρ h P => r ρ h fun ps h1 => ps.length ≤ 15 ∧ ∃ kvs, kvsD ps = some kvs ∧ ∀ p, h p = none → h1 p = none → P (rf p) (up h1 p (.dK (mergeD [] kvs)))
instance {trs : List (TE × TE)} {r : WP} [R : RP K XX trs r] : RE K XX (tDisp trs) (wDisp r) := ⟨fun {N σ H ρ h P Q} S e p k D hD => by
  have hN0 : ∀ a, (N a ∨ a = D) → N a ∨ H a = none := fun a z => z.imp id fun e => by rw [e]; exact hD
  have tN : Tr H h (L2.upd H D (.dK [])) h := Tr.new hD
  have S1 : Sx K XX (fun a => N a ∨ a = D) (L2.upd H D (.dK [])) h := S.more hD
  have E1 : En K (fun a => N a ∨ a = D) (L2.upd H D (.dK [])) h σ ρ := (e.mono (fun v d => Rl.hid hN0)).tr tN
  refine R.run S1 E1 p fun vs ds H2 h2 t2 S2 r2 ⟨l, kvs, ek, p2⟩ => ?_
  have hDn : ∀ {H' : Hp} {h' : Lh}, Sim K (fun a => N a ∨ a = D) H' h' → h' D = none := fun {H' h'} S' => by
    cases z : h' D with
    | none => rfl
    | some o => exact absurd (.inr rfl) (S'.at_ D o z).1
  have hD2 : H2 D = some (.dK []) := (t2.k D _ upd_same (hDn S1.toSim)).1
  obtain ⟨xs, rfl, rr⟩ := kvsD_ok r2 ek
  refine ⟨hD2, xs, rfl, by have := Paired.len r2; rw [List.length_map] at this; omega, ?_⟩
  have f : ∀ a o, H2 a = some o → h2 a = none → ¬ (N a ∨ a = D) → L2.upd H2 D (.dK (mergeK [] xs)) a = some o ∧ up h2 D (.dK (mergeD [] kvs)) a = none ∧ ¬ N a := fun a o e1 e2 e3 => by
    have ne : a ≠ D := fun z => e3 (.inr z)
    exact ⟨by rw [upd_ne ne]; exact e1, by rw [up_ne ne]; exact e2, fun z => e3 (.inl z)⟩
  have t3 : Tr H h (L2.upd H2 D (.dK (mergeK [] xs))) (up h2 D (.dK (mergeD [] kvs))) := ⟨fun a o e1 e2 => by
    have ne : a ≠ D := fun z => by rw [z, hD] at e1; cases e1
    have := (tN.trans t2).k a o e1 e2
    exact ⟨by rw [upd_ne ne]; exact this.1, by rw [up_ne ne]; exact this.2⟩, fun a q => (tN.trans t2).n a (upd_none q)⟩
  refine k _ _ _ _ t3 (S.to t3 ⟨fun a o q => ?_, fun a z => ?_⟩) (.rf D) (p2 D (S.hn hD) (hDn S2.toSim))
  · by_cases c : a = D
    · subst c
      rw [up_same] at q
      cases q
      exact ⟨S.nn hD, _, upd_same, .dK (Paired.mono2 (fun a b z => ⟨z.1, Rl.trN f z.2⟩) (KP.merge rr .nil))⟩
    · rw [up_ne c] at q
      obtain ⟨n', u', e', k'⟩ := S2.at_ a o q
      exact ⟨fun z => n' (.inl z), u', by rw [upd_ne c]; exact e', k'.mono (fun v d => Rl.trN f) (fun v d => Rls.trN f)⟩
  · by_cases c : a = D
    · subst c; exact ⟨_, upd_same, fun xs z => nomatch z⟩
    · rw [upd_ne c]; exact S2.hid a (.inl z)⟩
@[simp] theorem putD_cons {κ : Type} [DecidableEq κ] {p : κ × PyData} {r : List (κ × PyData)} {k : κ} {v : PyData} (h : ¬ p.1 = k) : putD (p :: r) k v = p :: putD r k v := by rw [putD, if_neg h]
@[simp] theorem putD_hit {κ : Type} [DecidableEq κ] {u v : PyData} {r : List (κ × PyData)} {k : κ} : putD ((k, u) :: r) k v = (k, v) :: r.map (fun kv => if kv.1 = k then (kv.1, v) else kv) := by rw [putD, if_pos rfl]
end
end Wl
set_option Elab.async false
set_option linter.all false
set_option maxRecDepth 100000
set_option maxHeartbeats 4000000
/-! ### from a law's plain promise to the walk's -/
namespace Wl
open PySem PySem.Spec PyProof.Rows L2 Evl Pd
def D_lawT (ds : List PyData) (h : Lh) (P : Wv) : Prop := ∃ ns : List Int, ds = [.dict [(.none, .tuple (ns.map .int))]] ∧ ns.length ≤ 63 ∧ h = (fun _ => none) ∧ ∀ h', P (.bool true) h'
def sp_lawT (K : PySem.W.Frag) : Sp := fun vs H Q _ => ∃ (a : Addr) (ns : List Int), vs = [.ref a] ∧ SqL K H a (ns.map V.int) ∧ ns.length ≤ 63 ∧ ∀ H', Q (.bl true) H'
theorem lawT {P : Program} {w : World} {K : PySem.W.Frag} {mg : Str → Option Value} {base : Heap} {CX : CXT} {k : Nat} {f : Addr} {fd : FuncData} {ps : List Str} (L : FnOk P w K mg base CX k f fd ps (SpW K D_lawT)) : FnOk P w K mg base CX k f fd ps (sp_lawT K) := L.imp fun vs H Q E ⟨a, ns, e, hs, hl, kk⟩ => by
  subst e
  refine ⟨fun _ => False, fun _ => none, _, fun d _ => d = .bool true, fun _ _ _ => False, Sx.noX ⟨fun a o z => (nomatch z), fun _ z => z.elim⟩, .cons (.scr ns ?_) .nil, ⟨ns, rfl, hl, rfl, fun _ => rfl⟩, ?_⟩
  · rcases hs with r | r
    · exact .inl ⟨r, rfl, fun z => z⟩
    · exact .inr r
  · intro v d H' h' t S r e
    subst e
    cases r
    exact kk _
end Wl
set_option Elab.async false
set_option linter.all false
set_option maxRecDepth 100000
set_option maxHeartbeats 2000000
/-! Wj: sets of ints, list.extend, unreached statements. -/
namespace Wl
open PySem PySem.Spec PyProof.Rows L2 Evl Pd
/-- a statement that is not reached -/
def tNever : TS := fun _ _ _ => False
theorem ps_never {X : Cx} {s : Stmt} : PS X s tNever := ⟨fun _ _ _ _ _ _ z => z.elim⟩
@[simp] def wNever : WS := fun _ _ _ => False
section
variable {K : PySem.W.Frag} {XX : XP} {N : Addr → Prop} {H : Hp} {h : Lh} {w : World}
instance : RS K XX tNever wNever := ⟨fun S E p k => p.elim⟩
theorem Sim.set {a b : Addr} {ks : List Int} (S : Sim K N H h) (e : h a = some (.set w b ks)) : H a = some (SetO w b (fun j => decide (j ∈ ks)) ks.length) := by
  obtain ⟨n, u, z, k⟩ := S.at_ a _ e
  cases k with
  | set => exact z
@[simp] def fSet0 (w : World) (ds : List PyData) (h : Lh) (P : Wv) : Prop := ds = [] ∧ ∀ p, h p = none → P (rf p) (up h p (.set w p []))
instance : RCW K (rSet0 w) (fSet0 w) := ⟨fun {XX N H h vs ds P Q} S r ⟨e, p⟩ k => by
  subst e
  cases r
  refine ⟨rfl, fun q hq => ?_⟩
  have e0 : (fun _ : Int => false) = fun j => decide (j ∈ ([] : List Int)) := by funext j; simp
  have t : Tr H h _ _ := Tr.put (v := SetO w q (fun j => decide (j ∈ ([] : List Int))) 0) (l := .set w q []) (.inl hq)
  rw [e0]
  exact (k.tr t).at (S.put (.inl hq) (.set w q [])) (.rf q) (p q (S.toSim.hn hq))⟩
@[simp] def fSIn (w : World) (neg : Bool) (d e : PyData) (h : Lh) (P : Wv) : Prop := ∃ k a ks, d = .int k ∧ e = rf a ∧ h a = some (.set w a ks) ∧ P (.bool (if neg then !decide (k ∈ ks) else decide (k ∈ ks))) h
instance : R2W K (rSIn w) (fSIn w false) := ⟨fun S a c ⟨k, q, ks, e1, e2, e3, p⟩ kk => ⟨k, q, _, _, by rw [e1] at a; exact a.i, c.r (a := q) (by rw [e2]; exact asR_rf q), S.toSim.set e3, kk.at S (.bl _) p⟩⟩
instance : R2W K (rSNotIn w) (fSIn w true) := ⟨fun S a c ⟨k, q, ks, e1, e2, e3, p⟩ kk => ⟨k, q, _, _, by rw [e1] at a; exact a.i, c.r (a := q) (by rw [e2]; exact asR_rf q), S.toSim.set e3, kk.at S (.bl _) p⟩⟩
@[simp] def wSAdd (w : World) (a : WE) (b : WA) : WE := fun ρ h P => a ρ h fun d h1 => (∃ p ks, d = rf p ∧ h1 p = some (.set w p ks)) ∧ b ρ h1 fun es h2 => ∃ p k ks, d = rf p ∧ es = [.int k] ∧ h2 p = some (.set w p ks) ∧ ks.length < 1000 ∧ P .none (up h2 p (.set w p (if k ∈ ks then ks else ks ++ [k])))
instance {ta : TE} {tb : TA} {a : WE} {b : WA} [A : RE K XX ta a] [B : RA K XX tb b] : RE K XX (tSAdd w ta tb) (wSAdd w a b) := ⟨fun S E p k =>
  A.run S E p fun v d H1 h1 t1 S1 r1 ⟨⟨q, ks, e1, e2⟩, p1⟩ => ⟨⟨q, _, _, r1.r (a := q) (by rw [e1]; exact asR_rf q), S1.toSim.set e2⟩, B.run S1 (E.tr t1) p1 fun vs es H2 h2 t2 S2 r2 ⟨q, i, ks, e1, e2, e3, l, p2⟩ => by
    subst e2
    obtain ⟨v2, rfl, i0⟩ := r2.one
    refine ⟨q, i, _, _, (r1.tr t2).r (a := q) (by rw [e1]; exact asR_rf q), by rw [i0.i], S2.toSim.set e3, by unfold scanBound; omega, ?_⟩
    have hp : H2 q = none ∨ h2 q ≠ none := .inr (by rw [e3]; intro z; cases z)
    have ee : (fun j => decide (j ∈ ks) || decide (j = i)) = fun j => decide (j ∈ (if i ∈ ks then ks else ks ++ [i])) := by
      funext j
      by_cases c : i ∈ ks
      · rw [if_pos c]
        by_cases cj : j = i
        · subst cj; simp [c]
        · simp [cj]
      · rw [if_neg c]; simp
    have el : (if decide (i ∈ ks) = true then ks.length else ks.length + 1) = (if i ∈ ks then ks else ks ++ [i]).length := by
      by_cases c : i ∈ ks
      · simp [c]
      · simp [c]
    rw [ee, el]
    have t : Tr H2 h2 _ _ := Tr.put (v := SetO w q (fun j => decide (j ∈ (if i ∈ ks then ks else ks ++ [i]))) (if i ∈ ks then ks else ks ++ [i]).length) (l := .set w q (if i ∈ ks then ks else ks ++ [i])) hp
    exact ((k.tr (t1.trans t2)).tr t).at (S2.put hp (.set w q _)) .non p2⟩⟩
@[simp] def fExt (d : PyData) (es : List PyData) (h : Lh) (P : Wv) : Prop := ∃ p q ds fs, d = rf p ∧ es = [rf q] ∧ h p = some (.lst ds) ∧ h q = some (.lst fs) ∧ ds.length + fs.length ≤ 100000 ∧ P .none (up h p (.lst (ds ++ fs)))
instance : RMW K rExtend fExt := ⟨fun S rx rs ⟨p, q, ds, fs, e1, e2, e3, e4, l, pp⟩ k => by
  subst e2
  obtain ⟨v2, rfl, i0⟩ := rs.one
  obtain ⟨xs, z, r⟩ := Rl.lvH S e3
  obtain ⟨ys, z2, r2⟩ := Rl.lvH S e4
  exact ⟨p, q, xs, ys, rx.r (a := p) (by rw [e1]; exact asR_rf p), by rw [i0.r (a := q) (asR_rf q)], z, z2, by rw [r.length, r2.length]; exact sz_of l, lst_put S e3 (r.append r2) .non k pp⟩⟩
end
end Wl
set_option Elab.async false
set_option linter.all false
set_option maxRecDepth 100000
set_option maxHeartbeats 2000000
/-! Wk: match, sum, e.f += v. -/
namespace Wl
open PySem PySem.Spec PyProof.Rows L2 Evl Pd
abbrev WMc := List PyData → WS
class RMc (K : PySem.W.Frag) (XX : XP) (t : TMc) (w : outParam WMc) : Prop where
  run : ∀ {N : Addr → Prop} {σ : L2.St} {H : Hp} {ρ : Ev'} {h : Lh} {E : WEnds} {D : Ends} {xs : List V} {ds : List PyData}, Sx K XX N H h → En K N H h σ ρ → Rls K N H h xs ds → w ds E ρ h → EnK K XX N H h E D → t xs D σ H
@[simp] def wMEnd : WMc := fun _ E ρ h => E.nx ρ h
@[simp] def setAllD : Ev' → List (Option Nat) → List PyData → Ev'
  | ρ, some i :: is, d :: ds => setAllD (ρ.set i (some d)) is ds
  | ρ, none :: is, _ :: ds => setAllD ρ is ds
  | ρ, _, _ => ρ
@[simp] def wMSeq (w : Str) (is : List (Option Nat)) (b : WS) (r : WMc) : WMc := fun ds E ρ h => if ds.length = is.length + 1 then ∃ x es, ds = .str x :: es ∧ (if x = w then b E (setAllD ρ is es) h else r ds E ρ h) else r ds E ρ h
@[simp] def wMatch (a : WE) (m : WMc) : WS := fun E ρ h => a ρ h fun d h1 => ∃ ds, tv d = some ds ∧ m ds E ρ h1
section
variable {K : PySem.W.Frag} {XX : XP} {N : Addr → Prop} {H : Hp} {h : Lh}
theorem En.setAll : ∀ {is : List (Option Nat)} {vs : List V} {ds : List PyData} {σ : L2.St} {ρ : Ev'}, En K N H h σ ρ → Rls K N H h vs ds → En K N H h (Pd.setAll σ is vs) (setAllD ρ is ds)
  | [], _, _, _, _, e, _ => by unfold Pd.setAll setAllD; exact e
  | some i :: is, _, _, _, _, e, .nil => by unfold Pd.setAll setAllD; exact e
  | none :: is, _, _, _, _, e, .nil => by unfold Pd.setAll setAllD; exact e
  | some i :: is, _, _, _, _, e, .cons a b => by unfold Pd.setAll setAllD; exact En.setAll (e.set i a) b
  | none :: is, _, _, _, _, e, .cons a b => by unfold Pd.setAll setAllD; exact En.setAll e b
instance : RMc K XX mEnd wMEnd := ⟨fun S E r p k => k.nx _ _ _ _ (Tr.refl _ _) S E p⟩
instance {w : Str} {is : List (Option Nat)} {tb : TS} {tr : TMc} {b : WS} {r : WMc} [B : RS K XX tb b] [R : RMc K XX tr r] : RMc K XX (mSeq w is tb tr) (wMSeq w is b r) := ⟨fun {N σ H ρ h E D xs ds} S En rl p k => by
  unfold mSeq
  unfold wMSeq at p
  rw [rl.length]
  by_cases c : ds.length = is.length + 1
  · rw [if_pos c] at p ⊢
    obtain ⟨x, es, rfl, p⟩ := p
    cases rl with
    | cons a rl' =>
      have ea := a.s
      subst ea
      refine ⟨x, _, rfl, ?_⟩
      by_cases z : x = w
      · rw [if_pos z] at p ⊢
        exact B.run S (En.setAll rl') p k
      · rw [if_neg z] at p ⊢
        exact R.run S En (.cons a rl') p k
  · rw [if_neg c] at p ⊢
    exact R.run S En rl p k⟩
instance {te : TE} {tm : TMc} {a : WE} {m : WMc} [A : RE K XX te a] [M : RMc K XX tm m] : RS K XX (Pd.tMatch K te tm) (wMatch a m) := ⟨fun {N σ H ρ h E D} S En p k =>
  A.run S En p fun v d H1 h1 t1 S1 r1 ⟨ds, e, p1⟩ => by
    obtain ⟨q, xs, rfl, t, r⟩ := r1.tv e
    exact ⟨q, xs, rfl, t, M.run S1 (En.tr t1) r p1 (k.tr t1)⟩⟩
theorem Rls.ofInts : ∀ {ns : List Int} {xs : List V}, Rls K N H h xs (ns.map PyData.int) → xs = ns.map V.int
  | [], _, .nil => rfl
  | n :: ns, _, .cons a b => by rw [a.i, Rls.ofInts b]; rfl
@[simp] def fSum (ds : List PyData) (h : Lh) (P : Wv) : Prop := ∃ (d : PyData) (ns : List Int), ds = [d] ∧ Wl.lv h d = some (ns.map PyData.int) ∧ P (.int ns.sum) h
instance : RCW K (rSum K) fSum := ⟨fun S r ⟨d, ns, e, l, p⟩ k => by
  subst e
  obtain ⟨v, rfl, rv⟩ := r.one
  obtain ⟨a, xs, rfl, t, rr⟩ := rv.lv S l
  cases rr.ofInts
  exact ⟨a, ns, rfl, t, k.at S (.int _) p⟩⟩
@[simp] def fAddI (d e : PyData) (h : Lh) (P : Wv) : Prop := ∃ i j, d = .int i ∧ e = .int j ∧ P (.int (i + j)) h
instance : R2W K L2.rAdd fAddI := ⟨fun S a b ⟨i, j, e1, e2, p⟩ k => by
  subst e1 e2
  exact ⟨i, j, a.i, b.i, k.at S (.int _) p⟩⟩
@[simp] def wFldAug (K : PySem.W.Frag) (a b : WE) (g : PyData → PyData → Lh → Wv → Prop) (f : Str) : WS := fun E ρ h => a ρ h fun d h1 => ∃ p C fs v, d = rf p ∧ h1 p = some (.ins C fs) ∧ Cls K C ∧ NoAttr K C f ∧ lkD f fs = some v ∧
  b ρ h1 fun e h2 => g v e h2 fun z h3 => ∃ fs', h3 p = some (.ins C fs') ∧ fs'.length < 1000 ∧ E.nx ρ (up h3 p (.ins C (putFD f z fs')))
instance {ta tb : TE} {a b : WE} {rd : R2} {g : PyData → PyData → Lh → Wv → Prop} {f : Str} [A : RE K XX ta a] [B : RE K XX tb b] [R : R2W K rd g] : RS K XX (sFldAug K ta tb rd f) (wFldAug K a b g f) := ⟨fun {N σ H ρ h E D} S En p k =>
  A.run S En p fun v d H1 h1 t1 S1 r1 ⟨q, C, fs, y, e, e2, c1, c2, e3, p1⟩ => by
    obtain ⟨dx, xs, z, pr⟩ := Rl.insH S1 e2
    obtain ⟨w, hw, rw'⟩ := (Paired.lookup pr).2 y e3
    refine ⟨q, C, dx, xs, w, r1.r (a := q) (by rw [e]; exact asR_rf q), z, c1, c2, hw, B.run S1 (En.tr t1) p1 fun y2 d2 H2 h2 t2 S2 r2 p2 => R.run S2 (rw'.tr t2) r2 p2 fun v3 d3 H3 h3 t3 S3 r3 ⟨fs3, e5, l3, p3⟩ => ?_⟩
    obtain ⟨dx3, xs3, z3, pr3⟩ := Rl.insH S3 e5
    have hp : H3 q = none ∨ h3 q ≠ none := .inr (by rw [e5]; intro z; cases z)
    have t := (t1.trans t2).trans t3
    have t4 : Tr H3 h3 (L2.upd H3 q (.ins C dx3 (L2.putF f v3 xs3))) (up h3 q (.ins C (putFD f d3 fs3))) := Tr.put hp
    exact ⟨dx3, xs3, z3, by rw [Paired.len pr3]; exact l3, k.nx _ _ _ _ (t.trans t4) (S3.put hp (.ins (Paired.putF r3 pr3))) (En.tr (t.trans t4)) p3⟩⟩
end
end Wl
set_option Elab.async false
set_option linter.all false
set_option maxRecDepth 100000
set_option maxHeartbeats 4000000
/-! Wl2: dict comprehensions (the dict is a new mutable object). -/
namespace L2
open PySem PySem.Spec PyProof.Rows
theorem dc_it {J : It} {n : Nat} {G : Hp → Prop} {Y : Nat → Hp → V → Hp → Prop} (w : Walk J n G Y) {g : TG} {tt : TT} {tk tv : TE} {vs : List Nat} {σ : St} {H1 : Hp} {D : Addr} {Qd : Hp → Prop} (Pv : Nat → Hp → Prop) (h0 : Pv 0 (upd H1 D (.dK []))) (hG : ∀ i H, i ≤ n → Pv i H → G H)
    (hs : ∀ i x H H', i < n → Pv i H → Y i H x H' → g x (wipe σ vs) H' fun σ2 H2 => wipe σ2 vs = wipe σ vs ∧ tt σ2 H2 fun b H3 =>
      if b = true then tk σ2 H3 fun y H4 => tv σ2 H4 fun z H5 => ∃ kvs k, y = kV k ∧ H5 D = some (.dK kvs) ∧ kvs.length < sizeLine ∧ Pv (i + 1) (upd H5 D (.dK (putK kvs k z))) else Pv (i + 1) H3) (hd : ∀ H, Pv n H → Qd H) :
    ∃ W : Nat → Nat → Hp → Prop, (∃ m, W 0 m (upd H1 D (.dK []))) ∧ ∀ i m H, W i m H →
      (J.stop i H ∧ Qd H) ∨ (J.go i H ∧ ∃ Nx : Hp → Prop, (∀ H', Nx H' → ∃ m', m' < m ∧ W (i + 1) m' H') ∧ ∀ x H', J.yld i H x H' → g x (wipe σ vs) H' fun σ2 H2 => wipe σ2 vs = wipe σ vs ∧ tt σ2 H2 fun b H3 =>
        if b = true then tk σ2 H3 fun y H4 => tv σ2 H4 fun z H5 => ∃ kvs k, y = kV k ∧ H5 D = some (.dK kvs) ∧ kvs.length < sizeLine ∧ Nx (upd H5 D (.dK (putK kvs k z))) else Nx H3) := by
  refine ⟨fun i m H => m = n - i ∧ i ≤ n ∧ Pv i H, ⟨n, by simp, Nat.zero_le _, h0⟩, ?_⟩
  rintro i m H ⟨rfl, hi, p⟩
  have q := hG i H hi p
  by_cases hlt : i < n
  · refine .inr ⟨w.goes i H hlt q, Pv (i + 1), fun H' p' => ⟨n - (i + 1), by omega, rfl, hlt, p'⟩, fun x H' y => hs i x H H' hlt p (w.yields i H x H' hlt q y)⟩
  · have e : i = n := by omega
    subst e
    exact .inl ⟨w.stops H q, hd H p⟩
end L2
namespace Wl
open PySem PySem.Spec PyProof.Rows L2 Evl Pd
@[simp] def dcL (keep : Lh → Prop) (g : WG) (t : WT) (ek ev : WE) (ρ : Ev') (P : List (Key × PyData) → Lh → Prop) : List PyData → List (Key × PyData) → Lh → Prop
  | [], acc, h => keep h ∧ P acc h
  | d :: ds, acc, h => keep h ∧ acc.length < 100000 ∧ g d ρ h fun ρ1 h1 => t ρ1 h1 fun b h2 => wCond b (ek ρ1 h2 fun y h3 => ev ρ1 h3 fun x h4 => ∃ k, keyD y = some k ∧ dcL keep g t ek ev ρ P ds (putD acc k x) h4) (dcL keep g t ek ev ρ P ds acc h2)
@[simp] def wDc (s : WI) (g : WG) (t : WT) (ek ev : WE) (vs : List Nat) : WE := fun ρ h P => s ρ h fun ds keep h1 => dcL keep g t ek ev (wipeD ρ vs) (fun kvs h2 => ∀ p, h p = none → h2 p = none → P (rf p) (up h2 p (.dK kvs))) ds [] h1
theorem dcL_keep {keep : Lh → Prop} {g : WG} {t : WT} {ek ev : WE} {ρ : Ev'} {P : List (Key × PyData) → Lh → Prop} {ds : List PyData} {acc : List (Key × PyData)} {h : Lh} (p : dcL keep g t ek ev ρ P ds acc h) : keep h := by
  cases ds <;> exact p.1
/-- a hidden dict comes out -/
theorem Ko.refD {K : PySem.W.Frag} {XX : XP} {N : Addr → Prop} {H H' : Hp} {h h' : Lh} {Q : VK} {P : Wv} {p : Addr} {xs : List (Key × V)} {kvs : List (Key × PyData)} (k : Ko K XX N H h P Q) (S : Sx K XX N H h) (n : H p = none) (t : Tr H h H' h') (S' : Sx K XX (fun a => N a ∨ a = p) H' h') (e : H' p = some (.dK xs))
    (r : KP Key K (fun a => N a ∨ a = p) H' h' xs kvs) (q : ∀ p, h p = none → h' p = none → P (rf p) (up h' p (.dK kvs))) : Q (.ref p) H' := by
  have np : ¬ N p := S.nn n
  have hp' : h' p = none := by
    cases z : h' p with
    | none => rfl
    | some o => exact absurd (.inr rfl) (S'.at_ p o z).1
  have f : ∀ a o, H' a = some o → h' a = none → ¬ (N a ∨ a = p) → H' a = some o ∧ up h' p (.dK kvs) a = none ∧ ¬ N a := fun a o e1 e2 e3 => by
    have ne : a ≠ p := fun z => e3 (.inr z)
    exact ⟨e1, by rw [up_ne ne]; exact e2, fun z => e3 (.inl z)⟩
  have t2 : Tr H h H' (up h' p (.dK kvs)) := ⟨fun a o e1 e2 => by
    have ne : a ≠ p := fun z => by rw [z, n] at e1; cases e1
    exact ⟨(t.k a o e1 e2).1, by rw [up_ne ne]; exact (t.k a o e1 e2).2⟩, t.n⟩
  refine k _ _ H' (up h' p (.dK kvs)) t2 (S.to t2 ⟨fun a o q => ?_, fun a z => S'.hid a (.inl z)⟩) (.rf p) (q p (S.hn n) hp')
  by_cases c : a = p
  · subst c
    rw [up_same] at q
    cases q
    exact ⟨np, _, e, .dK (Paired.mono2 (fun a b z => ⟨z.1, z.2.trN f⟩) r)⟩
  · rw [up_ne c] at q
    obtain ⟨n', u', e', k'⟩ := S'.at_ a o q
    exact ⟨fun z => n' (.inl z), u', e', k'.mono (fun v d => Rl.trN f) (fun v d => Rls.trN f)⟩
section
variable {K : PySem.W.Frag} {XX : XP} {vs : List Nat}
instance {ti : TI} {tg : TG} {tt : TT} {tk tv : TE} {s : WI} {g : WG} {t : WT} {ek ev : WE} [I : RI K XX ti s] [G : RGC K XX vs tg g] [T : RT K XX tt t] [EK : RE K XX tk ek] [EV : RE K XX tv ev] : RE K XX (tDc ti tg tt tk tv vs) (wDc s g t ek ev vs) := ⟨fun {N σ H ρ h P Q} S En0 p k =>
  I.run S En0 p fun J H2 h2 ds keep Gd Y t2 S2 p2 W hG hY D hD => by
    have hN : ∀ a, (N a ∨ a = D) → N a ∨ H2 a = none := fun a z => z.imp id fun e => by rw [e]; exact hD
    have hD0 : H D = none := t2.n D hD
    have hN0 : ∀ a, (N a ∨ a = D) → N a ∨ H a = none := fun a z => z.imp id fun e => by rw [e]; exact hD0
    have tN : Tr H2 h2 (L2.upd H2 D (.dK [])) h2 := Tr.new hD
    refine dc_it W (fun i H' => ∃ h' acc accd, H' D = some (.dK acc) ∧ Tr H2 h2 H' h' ∧ Sx K XX (fun a => N a ∨ a = D) H' h' ∧ KP Key K (fun a => N a ∨ a = D) H' h' acc accd ∧ dcL keep g t ek ev (wipeD ρ vs) (fun kvs h2 => ∀ p, h p = none → h2 p = none → P (rf p) (up h2 p (.dK kvs))) (ds.drop i) accd h')
      ⟨h2, [], [], upd_same, tN, S2.more hD, .nil, p2⟩ (fun i H' _ ⟨h', acc, accd, q1, q2, q3, q4, q5⟩ => hG _ H' h' hN q2 q3 (dcL_keep q5)) (fun i x H' H4 hi ⟨h', acc, accd, q1, q2, q3, q4, q5⟩ y => ?_) fun H' ⟨h', acc, accd, q1, q2, q3, q4, q5⟩ => ?_
    · obtain ⟨d, hd, t4, _, S4, r4⟩ := hY _ i H' h' x H4 hN q2 q3 (dcL_keep q5) y
      have hdr : ds.drop i = d :: ds.drop (i + 1) := by
        have hl : i < ds.length := hi
        rw [List.drop_eq_getElem_cons hl]
        have : ds[i] = d := by simpa [hl] using hd
        rw [this]
      rw [hdr] at q5
      have E4 : En K (fun a => N a ∨ a = D) H4 h' (wipe σ vs) (wipeD ρ vs) := (((En0.mono (fun v d => Rl.hid hN0)).tr (t2.trans (q2.trans t4)))).wipe vs
      have hDn : ∀ {H' : Hp} {h' : Lh}, Sx K XX (fun a => N a ∨ a = D) H' h' → h' D = none := fun {H' h'} S' => by
        cases z : h' D with
        | none => rfl
        | some o => exact absurd (.inr rfl) (S'.at_ D o z).1
      refine G.run S4 E4 r4 q5.2.2 fun σ5 ρ5 E5 w5 p5 => ⟨by rw [w5, wipe_twice], T.run S4 E5 p5 fun b H6 h6 t6 S6 p6 => p6.on (fun z => ?_) fun z => ?_⟩
      · refine EK.run S6 (E5.tr t6) z fun y yd H7 h7 t7 S7 r7 p7 => EV.run S7 ((E5.tr t6).tr t7) p7 fun v d8 H8 h8 t8 S8 r8 ⟨kk, ek1, p8⟩ => ?_
        have tt := ((t4.trans t6).trans t7).trans t8
        have q17 : H8 D = some (.dK acc) := (tt.k D _ q1 (hDn q3)).1
        have tD : Tr H2 h2 (L2.upd H8 D (.dK (L2.putK acc kk v))) h8 := ⟨fun a o e1 e2 => by
          have ne : a ≠ D := fun z => by rw [z, hD] at e1; cases e1
          obtain ⟨z1, z2⟩ := (q2.trans tt).k a o e1 e2
          exact ⟨by rw [upd_ne ne]; exact z1, z2⟩, fun a e1 => (q2.trans tt).n a (upd_none e1)⟩
        refine ⟨acc, kk, (r7.tr t8).key ek1, q17, sz_lt (by rw [KP.len q4]; exact q5.2.1), h8, L2.putK acc kk v, putD accd kk d8, upd_same, tD, ⟨S8.toSim.hidUpd (.inr rfl), (S2.x.tr tD).hid fun a z => .inl z⟩, ?_, p8⟩
        have f : ∀ a o, H8 a = some o → h8 a = none → ¬ (N a ∨ a = D) → L2.upd H8 D (.dK (L2.putK acc kk v)) a = some o ∧ h8 a = none ∧ ¬ (N a ∨ a = D) := fun a o e1 e2 e3 => ⟨by rw [upd_ne (fun z => e3 (.inr z))]; exact e1, e2, e3⟩
        exact Paired.mono2 (fun a b z => ⟨z.1, z.2.trN f⟩) (KP.put r8 (KP.tr tt q4))
      · have tt := t4.trans t6
        exact ⟨h6, acc, accd, (tt.k D _ q1 (hDn q3)).1, q2.trans tt, S6, KP.tr tt q4, z⟩
    · rw [List.drop_length] at q5
      exact k.refD S hD0 (t2.trans q2) q3 q1 q4 q5.2⟩
end
end Wl
set_option Elab.async false
set_option linter.all false
set_option maxRecDepth 100000
set_option maxHeartbeats 4000000
/-! Wm: walks of a dict (locked while it is walked). -/
namespace Wl
open PySem PySem.Spec PyProof.Rows L2 Evl Pd
@[simp] def keyP : Key → PyData
  | .inl i => .int i
  | .inr s => .str s
@[simp] theorem keyD_keyP {k : Key} : keyD (keyP k) = some k := by cases k <;> rfl
theorem Rl.kV {K : PySem.W.Frag} {N : Addr → Prop} {H : Hp} {h : Lh} : ∀ k : Key, Rl K N H h (L2.kV k) (keyP k)
  | .inl i => .int i
  | .inr s => .str s
@[simp] def wIItems (a : WE) : WI := fun ρ h P => a ρ h fun d h1 => ∃ p od xs kvs, d = rf p ∧ h1 p = some (.lk od xs kvs) ∧ P (kvs.map fun kv => .tuple [keyP kv.1, kv.2]) (fun h3 => h3 p = some (.lk od xs kvs)) h1
@[simp] def wLockE (a : WE) : WE := fun ρ h P => ∃ d kvs, h d = some (.dK kvs) ∧ ∀ od xs, a ρ (up h d (.lk od xs kvs)) fun v h' => h' d = some (.lk od xs kvs) ∧ P v (up h' d (.dK kvs))
section
variable {K : PySem.W.Frag} {XX : XP} {N : Addr → Prop} {H : Hp} {h : Lh}
theorem KPat : ∀ {xs : List (Key × V)} {kvs : List (Key × PyData)} {i : Nat} {x : Key × V}, KP Key K N H h xs kvs → xs[i]? = some x → ∃ d, kvs[i]? = some (x.1, d) ∧ Rl K N H h x.2 d
  | _, _, i, _, .nil, e => by cases e
  | _, _, 0, _, .cons (b := b) a r, e => by
    cases e
    exact ⟨b.2, by rw [a.1]; rfl, a.2⟩
  | _, _, i + 1, _, .cons a r, e => KPat (i := i) r e
instance {td : TE} {a : WE} [A : RE K XX td a] : RI K XX (iItems td) (wIItems a) := ⟨fun {N σ H ρ h P R} S E p k => A.run S E p fun v d H1 h1 t1 S1 r1 ⟨q, od, xs, kvs, e, e2, p1⟩ => by
  have at3 : ∀ (N' : Addr → Prop) (H3 : Hp) (h3 : Lh), Sx K XX N' H3 h3 → h3 q = some (.lk od xs kvs) → H3 q = some (.frz od (.dK xs)) ∧ KP Key K N' H3 h3 xs kvs := fun N' H3 h3 S3 e3 => by
    obtain ⟨n, u, z, k3⟩ := S3.toSim.at_ q _ e3
    cases k3 with
    | lk r => exact ⟨z, r⟩
  refine ⟨q, od, xs, r1.r (a := q) (by rw [e]; exact asR_rf q), (at3 _ _ _ S1 e2).1, k _ H1 h1 (kvs.map fun kv => .tuple [keyP kv.1, kv.2]) _ (fun H => H q = some (.frz od (.dK xs))) (YPair (fun i => xs[i]?.map fun kv => L2.kV kv.1) (fun i => xs[i]?.map Prod.snd)) t1 S1 p1 (by
    rw [List.length_map, ← KP.len (at3 _ _ _ S1 e2).2]; exact walk_items) (fun N' H3 h3 hN t3 S3 kp => (at3 _ _ _ S3 kp).1) fun N' i H3 h3 x H4 hN t3 S3 kp ⟨T, x1, y1, ex, hT, eH, f1, f2⟩ => ?_⟩
  subst ex eH
  obtain ⟨z, r3⟩ := at3 _ _ _ S3 kp
  replace f1 : xs[i]?.map (fun kv => L2.kV kv.1) = some x1 := f1
  replace f2 : xs[i]?.map Prod.snd = some y1 := f2
  cases hx : xs[i]? with
  | none => rw [hx] at f1; cases f1
  | some kv =>
    rw [hx] at f1 f2
    cases f1
    cases f2
    obtain ⟨dd, hd, rd⟩ := KPat r3 hx
    have tT : Tr H3 h3 (L2.upd H3 T (.tup [L2.kV kv.1, kv.2])) h3 := Tr.new hT
    exact ⟨.tuple [keyP kv.1, dd], by rw [List.getElem?_map, hd]; rfl, tT, Ex.new hT, S3.to tT (S3.toSim.new hT), .tup (.inl ⟨.inl upd_same, S3.toSim.hn hT, S3.toSim.nn hT⟩) (.cons (Rl.kV _) (.cons (rd.tr tT) .nil))⟩⟩
instance {te : TE} {a : WE} [A : RE K XX te a] : RE K XX (tLockE te) (wLockE a) := ⟨fun {N σ H ρ h P Q} S E ⟨d, kvs, e, p⟩ k => by
  obtain ⟨xs, z, r⟩ := S.toSim.dK e
  refine ⟨d, _, z, trivial, fun od => ?_⟩
  have hp : H d = none ∨ h d ≠ none := .inr (by rw [e]; intro z; cases z)
  have t : Tr H h (L2.upd H d (.frz od (.dK xs))) (up h d (.lk od xs kvs)) := Tr.put hp
  refine A.run (S.put hp (.lk r)) (E.tr t) (p od xs) fun v dd H1 h1 t1 S1 r1 ⟨e1, p1⟩ => ?_
  obtain ⟨n, u, z1, k1⟩ := S1.toSim.at_ d _ e1
  cases k1 with
  | lk r2 =>
    have hp1 : H1 d = none ∨ h1 d ≠ none := .inr (by rw [e1]; intro z; cases z)
    have t2 : Tr H1 h1 (L2.upd H1 d (.dK xs)) (up h1 d (.dK kvs)) := Tr.put hp1
    exact ⟨z1, ((k.tr t).tr (t1.trans t2)).at (S1.put hp1 (.dK r2)) (r1.tr t2) p1⟩⟩
@[simp] def wDNew : WE := fun _ h P => ∀ p, h p = none → P (rf p) (up h p (.dK []))
instance : RE K XX tDNewK wDNew := ⟨fun {N σ H ρ h P Q} S E p k q hq => by
  have t : Tr H h (L2.upd H q (.dK [])) (up h q (.dK [])) := Tr.put (.inl hq)
  exact (k.tr t).at (S.put (.inl hq) (.dK .nil)) (.rf q) (p q (S.toSim.hn hq))⟩
end
end Wl
namespace Wl
open PySem PySem.Spec PyProof.Rows L2 Evl Pd
theorem k_extend {X : Cx} {K : PySem.W.Frag} (hK : X.K = K) {o e : Expr} {es : List Expr} {to : TE} {t : TA} {apos cpos : Pos} (ho : PE X o to) (ha : PA X (e :: es) t)
    (hbase : attributeBase o "extend" X.env (eval o X.env) = eval o X.env := by rfl)
    (hfew : ((backTo cpos (starEach (e :: es) X.env)).all (fun x => !x.1) && (backToKw cpos (keywordEach [] X.env)).all (fun x => x.1.isSome)
      && decide ((e :: es).length + ([] : List Keyword).length + (if ([] : List Keyword).isEmpty then 0 else 1) < 30)) = true := by rfl)
    (hline : (apos.endLine == cpos.line) = true := by rfl)
    (hs : starEach (e :: es) X.env = (false, eval e X.env) :: starEach es X.env := by rfl) (hpl : (backTo cpos (starEach es X.env)).any (·.1) = false := by rfl) :
    PE X (.Call (.Attribute o "extend" apos) (e :: es) [] cpos) (tBM K "list" rExtend to t) := by subst hK; exact pe_bm PySem.F.plainAttrs_list PySem.F.slot_list_extend PySem.F.type_list_extend mt_extend ho ha hbase hfew hline hs hpl
theorem k_psfldaug {X : Cx} {K : PySem.W.Frag} (hK : X.K = K) {o value : Expr} {f : Str} {pos tpos : Pos} {ta tv : TE} {op : Operator} {rd : V → V → Hp → VK → Prop} (ha : PE X o ta) (hv : PE X value tv) (hop : InOp X op rd) : PS X (.AugAssign (.Attribute o f tpos) op value pos) (sFldAug K ta tv rd f) := by subst hK; exact ps_fldaug ha hv hop
section
variable {X : Cx} {C : Addr} {m : Str} {k : Nat} {ps : List Str} {sp : Sp} {E : XK} {o : Expr} {ta : TE} {apos pos : Pos} {CX : CXT}
theorem pe_calM0 {pl : Sem Bool} (M : CalM X.prog X.w X.K X.mg X.base CX k C m ps sp) (c : Cls X.K C) (hr : Room k X.A) (hx : Passes CX X E) (he : PE X o ta)
    (ht : eval (.Call (.Attribute o m apos) [] [] pos) X.env = (do
      let ov ← eval o X.env
      standAt apos.atName
      let (f, first) ← holding [ov] (getMethod ov m pl)
      callWith pos f first (backTo pos (starEach [] X.env)) (backToKw pos (keywordEach [] X.env))) := by rfl) :
    PE X (.Call (.Attribute o m apos) [] [] pos) (tMeth C m sp [] E ta tNil) := by
  obtain ⟨f, fd, hm, hb, F⟩ := M.ex
  exact pe_meth0 he c hm F hr hb .nil hx ht
end
theorem k_set0 {X : Cx} {w : World} (hw : X.w = w) : CallR X (.type "set") (rSet0 w) := by subst hw; exact cr_set0
theorem k_sin {X : Cx} {w : World} (hw : X.w = w) : OpR X (compareOp .In) (rSIn w) := by subst hw; exact or_sin
theorem k_snotin {X : Cx} {w : World} (hw : X.w = w) : OpR X (compareOp .NotIn) (rSNotIn w) := by subst hw; exact or_snotin
theorem k_sadd {X : Cx} {w : World} (hw : X.w = w) {o e : Expr} {es : List Expr} {to : TE} {t : TA} {apos cpos : Pos} (ho : PE X o to) (ha : PA X (e :: es) t)
    (hbase : attributeBase o "add" X.env (eval o X.env) = eval o X.env := by rfl)
    (hfew : ((backTo cpos (starEach (e :: es) X.env)).all (fun x => !x.1) && (backToKw cpos (keywordEach [] X.env)).all (fun x => x.1.isSome)
      && decide ((e :: es).length + ([] : List Keyword).length + (if ([] : List Keyword).isEmpty then 0 else 1) < 30)) = true := by rfl)
    (hline : (apos.endLine == cpos.line) = true := by rfl) (hs : starEach (e :: es) X.env = (false, eval e X.env) :: starEach es X.env := by rfl) (hplain : (backTo cpos (starEach es X.env)).any (·.1) = false := by rfl) :
    PE X (.Call (.Attribute o "add" apos) (e :: es) [] cpos) (tSAdd w to t) := by subst hw; exact pe_sadd ho ha hbase hfew hline hs hplain
end Wl
set_option Elab.async false
set_option linter.all false
set_option maxRecDepth 100000
set_option maxHeartbeats 1000000
namespace K37
open PySem PySem.Spec PyProof.Rows L2 Evl Pd Wl
/-! the plain model of a store -/
abbrev ref (n : Int) : PyData := .tuple [.str "object", .int n]
def refOf : PyData → Option Int
  | .tuple [_, .int n] => some n
  | _ => none
@[simp] theorem refOf_none : refOf .none = none := rfl
@[simp] theorem refOf_int {i : Int} : refOf (.int i) = none := rfl
@[simp] theorem refOf_ref {x : PyData} {n : Int} : refOf (.tuple [x, .int n]) = some n := rfl
def add1 (f : List Int) (v : PyData) : List Int := match refOf v with
  | some n => if n ∈ f then f else f ++ [n]
  | none => f
def scan (c : List PyData) (f : List Int) : List Int := c.foldl add1 f
@[simp] theorem scan_nil {f : List Int} : scan [] f = f := rfl
@[simp] theorem scan_cons {v : PyData} {c : List PyData} {f : List Int} : scan (v :: c) f = scan c (add1 f v) := rfl
theorem scan_append {a b : List PyData} {f : List Int} : scan (a ++ b) f = scan b (scan a f) := List.foldl_append
def go (cells : Int → List PyData) : Nat → Nat → List Int → List Int
  | 0, _, f => f
  | n + 1, j, f => match f[j]? with
    | some k => go cells n (j + 1) (scan (cells k) f)
    | none => f
theorem add1_nodup {f : List Int} {v : PyData} (h : f.Nodup) : (add1 f v).Nodup := by
  unfold add1
  split
  · split
    · exact h
    · rename_i c
      rw [List.nodup_append]
      exact ⟨h, by simp, fun a ha b hb => by cases List.mem_singleton.mp hb; exact fun z => c (z ▸ ha)⟩
  · exact h
theorem scan_nodup : ∀ {c : List PyData} {f : List Int}, f.Nodup → (scan c f).Nodup
  | [], _, h => h
  | v :: c, f, h => by rw [scan_cons]; exact scan_nodup (add1_nodup h)
theorem add1_pre {f : List Int} {v : PyData} : ∃ t, add1 f v = f ++ t := by
  unfold add1
  split
  · split
    · exact ⟨[], by simp⟩
    · exact ⟨_, rfl⟩
  · exact ⟨[], by simp⟩
theorem scan_pre : ∀ {c : List PyData} {f : List Int}, ∃ t, scan c f = f ++ t
  | [], f => ⟨[], by simp⟩
  | v :: c, f => by
    obtain ⟨t, e⟩ := @add1_pre f v
    obtain ⟨u, e2⟩ := @scan_pre c (add1 f v)
    exact ⟨t ++ u, by rw [scan_cons, e2, e, List.append_assoc]⟩
theorem go_pre {cells : Int → List PyData} : ∀ {n j : Nat} {f : List Int}, ∃ t, go cells n j f = f ++ t
  | 0, _, f => ⟨[], by simp [go]⟩
  | n + 1, j, f => by
    unfold go
    split
    · rename_i k _
      obtain ⟨t, e⟩ := @scan_pre (cells k) f
      obtain ⟨u, e2⟩ := @go_pre cells n (j + 1) (scan (cells k) f)
      exact ⟨t ++ u, by rw [e2, e, List.append_assoc]⟩
    · exact ⟨[], by simp⟩
/-- the references of values are among .. -/
def Rin (S : Int → Prop) (c : List PyData) : Prop := ∀ v ∈ c, ∀ n, refOf v = some n → S n
theorem Rin.nil {S : Int → Prop} : Rin S [] := fun _ h => by cases h
theorem Rin.append {S : Int → Prop} {a b : List PyData} (x : Rin S a) (y : Rin S b) : Rin S (a ++ b) := fun v h => (List.mem_append.mp h).elim (x v) (y v)
theorem Rin.mono {S S' : Int → Prop} {a : List PyData} (x : Rin S a) (f : ∀ n, S n → S' n) : Rin S' a := fun v h n e => f n (x v h n e)
theorem add1_in {S : Int → Prop} {f : List Int} {v : PyData} (h : ∀ n, refOf v = some n → S n) (hf : ∀ n ∈ f, S n) : ∀ n ∈ add1 f v, S n := by
  unfold add1
  split
  · rename_i n e
    split
    · exact hf
    · intro m hm
      rcases List.mem_append.mp hm with q | q
      · exact hf m q
      · cases List.mem_singleton.mp q; exact h _ e
  · exact hf
theorem scan_in {S : Int → Prop} : ∀ {c : List PyData} {f : List Int}, Rin S c → (∀ n ∈ f, S n) → ∀ n ∈ scan c f, S n
  | [], _, _, hf => hf
  | v :: c, f, h, hf => by rw [scan_cons]; exact scan_in (fun u hu => h u (List.mem_cons_of_mem _ hu)) (add1_in (h v (by simp)) hf)
theorem go_in {S : Int → Prop} {cells : Int → List PyData} (hc : ∀ k, S k → Rin S (cells k)) : ∀ {n j : Nat} {f : List Int}, (∀ m ∈ f, S m) → ∀ m ∈ go cells n j f, S m
  | 0, _, f, h => by unfold go; exact h
  | n + 1, j, f, h => by
    unfold go
    split
    · rename_i k e
      exact go_in hc (scan_in (hc k (h k (List.mem_of_getElem? e))) h)
    · exact h
theorem add1_has {f : List Int} {v : PyData} {n : Int} (e : refOf v = some n) : n ∈ add1 f v := by
  unfold add1
  rw [e]
  simp only
  split
  · assumption
  · simp
theorem add1_sub {f : List Int} {v : PyData} {n : Int} (h : n ∈ f) : n ∈ add1 f v := by
  obtain ⟨t, e⟩ := @add1_pre f v
  rw [e]; exact List.mem_append_left _ h
theorem scan_sub {c : List PyData} {f : List Int} {n : Int} (h : n ∈ f) : n ∈ scan c f := by
  obtain ⟨t, e⟩ := @scan_pre c f
  rw [e]; exact List.mem_append_left _ h
theorem scan_has : ∀ {c : List PyData} {f : List Int}, Rin (· ∈ scan c f) c
  | [], _ => Rin.nil
  | v :: c, f => fun u hu n e => by
    rw [scan_cons]
    rcases List.mem_cons.mp hu with rfl | hu
    · exact scan_sub (add1_has e)
    · exact scan_has u hu n e
theorem go_sub {cells : Int → List PyData} {n j : Nat} {f : List Int} {m : Int} (h : m ∈ f) : m ∈ go cells n j f := by
  obtain ⟨t, e⟩ := @go_pre cells n j f
  rw [e]; exact List.mem_append_left _ h
theorem len_le : ∀ {f ks : List Int}, f.Nodup → (∀ n ∈ f, n ∈ ks) → f.length ≤ ks.length
  | [], _, _, _ => Nat.zero_le _
  | a :: f, ks, h, hf => by
    have ha := hf a (by simp)
    have h2 := List.nodup_cons.mp h
    have l := len_le (f := f) (ks := ks.erase a) h2.2 (fun n hn => (List.mem_erase_of_ne (fun z => by subst z; exact h2.1 hn)).mpr (hf n (by simp [hn])))
    rw [List.length_erase_of_mem ha] at l
    have p : 0 < ks.length := List.length_pos_of_mem ha
    simp only [List.length_cons]
    omega
def Kn (c : Nat) (n : Int) : Prop := 0 ≤ n ∧ n < c
theorem len_kn {c : Nat} {f : List Int} (h : f.Nodup) (k : ∀ n ∈ f, Kn c n) : f.length ≤ c := by
  have := len_le (ks := (List.range c).map fun (i : Nat) => (i : Int)) h fun n hn => by
    obtain ⟨a, b⟩ := k n hn
    exact List.mem_map.mpr ⟨n.toNat, List.mem_range.mpr (by omega), by omega⟩
  simpa using this
theorem go_nodup {cells : Int → List PyData} : ∀ {n j : Nat} {f : List Int}, f.Nodup → (go cells n j f).Nodup
  | 0, _, f, h => by unfold go; exact h
  | n + 1, j, f, h => by
    unfold go
    split
    · exact go_nodup (scan_nodup h)
    · exact h
/-- all that is met has been walked -/
theorem go_closed {c : Nat} {cells : Int → List PyData} (hc : ∀ k, Kn c k → Rin (Kn c) (cells k)) : ∀ {n j : Nat} {f : List Int}, f.Nodup → (∀ n ∈ f, Kn c n) → c < j + n → (∀ i k, i < j → f[i]? = some k → Rin (· ∈ f) (cells k)) → ∀ k ∈ go cells n j f, Rin (· ∈ go cells n j f) (cells k)
  | 0, j, f, hn, hk, hl, hd => by
    unfold go
    intro k hm
    obtain ⟨i, hi, e⟩ := List.getElem_of_mem hm
    have := len_kn hn hk
    exact hd i k (by omega) (by rw [List.getElem?_eq_getElem hi, e])
  | n + 1, j, f, hn, hk, hl, hd => by
    unfold go
    split
    · rename_i k e
      refine go_closed hc (scan_nodup hn) (scan_in (hc k (hk k (List.mem_of_getElem? e))) hk) (by omega) fun i m hi em => ?_
      obtain ⟨t, et⟩ := @scan_pre (cells k) f
      have jl : j < f.length := (List.getElem?_eq_some_iff.mp e).1
      have em2 : f[i]? = some m := by
        rw [et, List.getElem?_append_left (by omega)] at em; exact em
      by_cases c2 : i < j
      · exact (hd i m c2 em2).mono fun _ => scan_sub
      · have : i = j := by omega
        subst this
        rw [e] at em2; cases em2
        exact scan_has
    · rename_i e
      intro k hm
      obtain ⟨i, hi, e2⟩ := List.getElem_of_mem hm
      have : f.length ≤ j := by
        rcases Nat.lt_or_ge j f.length with q | q
        · rw [List.getElem?_eq_getElem q] at e; cases e
        · exact q
      exact hd i k (by omega) (by rw [List.getElem?_eq_getElem hi, e2])
/-! ### states -/
structure PSt where
  cells : Int
  slots : Int
  roots : List PyData
  regs : List (List PyData)
  look : Int → List PyData
  count : Nat
def held (st : PSt) : List PyData := st.roots ++ st.regs.flatten
def met (st : PSt) : List Int := go st.look 1002 0 (scan (held st) [])
def used (st : PSt) : Int := ((met st).map fun k => ((st.look k).length : Int)).sum
def fits (st : PSt) (size : Int) : Bool := decide (used st + size ≤ st.cells) && decide (((met st).length : Int) < st.slots)
def OkR (c : Nat) (v : PyData) : Prop := v = .none ∨ ∃ n : Int, v = ref n ∧ Kn c n
def OkV (c : Nat) (v : PyData) : Prop := OkR c v ∨ ∃ i, v = .int i
structure Wf (st : PSt) : Prop where
  count : st.count ≤ 1000
  roots : ∀ v ∈ st.roots, OkR st.count v
  regs : ∀ row ∈ st.regs, ∀ v ∈ row, OkR st.count v
  look : ∀ k, Kn st.count k → (st.look k).length ≤ 50 ∧ ∀ v ∈ st.look k, OkV st.count v
  size : st.roots.length + st.regs.flatten.length ≤ 1000
  thr : st.regs.length ≤ 1000
theorem OkR.kn {c : Nat} {v : PyData} (h : OkR c v) {n : Int} (e : refOf v = some n) : v = ref n ∧ Kn c n := by
  rcases h with rfl | ⟨m, rfl, k⟩
  · cases e
  · cases e; exact ⟨rfl, k⟩
theorem OkV.kn {c : Nat} {v : PyData} (h : OkV c v) {n : Int} (e : refOf v = some n) : v = ref n ∧ Kn c n := by
  rcases h with h | ⟨i, rfl⟩
  · exact h.kn e
  · cases e
theorem OkR.mono {c c' : Nat} (l : c ≤ c') {v : PyData} (h : OkR c v) : OkR c' v := h.imp id fun ⟨n, e, k⟩ => ⟨n, e, k.1, by have := k.2; omega⟩
theorem OkV.mono {c c' : Nat} (l : c ≤ c') {v : PyData} (h : OkV c v) : OkV c' v := h.imp (OkR.mono l) id
theorem Wf.held {st : PSt} (W : Wf st) : ∀ v ∈ held st, OkR st.count v := fun v h => by
  unfold K37.held at h
  rcases List.mem_append.mp h with h | h
  · exact W.roots v h
  · obtain ⟨row, h1, h2⟩ := List.mem_flatten.mp h
    exact W.regs row h1 v h2
theorem Wf.heldIn {st : PSt} (W : Wf st) : Rin (Kn st.count) (K37.held st) := fun v h n e => ((W.held v h).kn e).2
theorem Wf.lookIn {st : PSt} (W : Wf st) : ∀ k, Kn st.count k → Rin (Kn st.count) (st.look k) := fun k hk v h n e => (((W.look k hk).2 v h).kn e).2
theorem met_nodup {st : PSt} : (met st).Nodup := go_nodup (scan_nodup List.nodup_nil)
theorem Wf.metKn {st : PSt} (W : Wf st) : ∀ n ∈ met st, Kn st.count n := go_in W.lookIn (scan_in W.heldIn fun _ h => absurd h List.not_mem_nil)
theorem Wf.metLen {st : PSt} (W : Wf st) : (met st).length ≤ 1000 := Nat.le_trans (len_kn met_nodup W.metKn) W.count
theorem nd_inl {l : List Int} (h : l.Nodup) : (l.map (Sum.inl : Int → Key)).Nodup := List.Pairwise.map _ (fun a b n z => n (Sum.inl.inj z)) h
theorem Wf.metNd {st : PSt} (W : Wf st) : ((met st).map (Sum.inl : Int → Key)).Nodup := nd_inl met_nodup
theorem met_held {st : PSt} : Rin (· ∈ met st) (held st) := scan_has.mono fun _ => go_sub
theorem Wf.metClosed {st : PSt} (W : Wf st) : ∀ k ∈ met st, Rin (· ∈ met st) (st.look k) := go_closed W.lookIn (scan_nodup List.nodup_nil) (scan_in W.heldIn fun _ h => absurd h List.not_mem_nil) (by have := W.count; omega) fun i k hi => by omega
/-- what is met lies within each closed set -/
theorem met_in {st : PSt} {S : Int → Prop} (h : Rin S (held st)) (c : ∀ k, S k → Rin S (st.look k)) : ∀ n ∈ met st, S n := go_in c (scan_in h fun _ h => absurd h List.not_mem_nil)
end K37
set_option Elab.async false
set_option linter.all false
set_option maxRecDepth 100000
set_option maxHeartbeats 2000000
/-! Wn: instances made by calls with keywords. -/
namespace Pd
open PySem PySem.Spec PyProof.Rows L2 Evl
/-- the making of an instance with keywords -/
structure CalCK (P : Program) (w : World) (K : PySem.W.Frag) (mg : Str → Option Value) (base : Heap) (CX : CXT) (k : Nat) (x : Str) (C : Addr) (ps : List Str) (n : Nat) (ks : List Str) (sp : Sp) : Prop where
  ex : ∃ (f : Addr) (fd : FuncData), mg x = some (.ref C) ∧ Mk K C f ∧ KBn K fd ps (n + 1) ks (fun us ws => us ++ ws) (fun vs zs => vs ++ zs) ∧ FnOk P w K mg base CX k f fd ps sp
structure SrcCK (K : PySem.W.Frag) (mg : Str → Option Value) (x : Str) (C : Addr) (qual : Str) (st : Stmt) (ps : List Str) (n : Nat) (ks : List Str) : Prop where
  ex : ∃ (f : Addr) (fd : FuncData), mg x = some (.ref C) ∧ Mk K C f ∧ Fun K "__init__" qual st f fd ∧ KBn K fd ps (n + 1) ks (fun us ws => us ++ ws) (fun vs zs => vs ++ zs)
section
variable {P : Program} {w : World} {K : PySem.W.Frag} {mg : Str → Option Value} {base : Heap}
theorem SrcCK.cal {x : Str} {C : Addr} {qual : Str} {st : Stmt} {N ps ks : List Str} {k n : Nat} {sp : Sp} (F : SrcCK K mg x C qual st ps n ks) (S : FnScope N ps (defScope st)) (len : ∀ vs H Q E, sp vs H Q E → vs.length = ps.length)
    (hbody : ∀ (f : Addr) (cdv : Value) (A : Around) (outer : List Env) (s : Shared) (H : Hp) (vs : List V) (Q : VK) (E : XK), Room k (A.deeper (envOfC qual (defScope st) s.heap.objs.size f cdv)) → sp vs H Q E →
      ∃ t, PSs (cxOf CX0 P w K mg base N qual (defScope st) f cdv A outer s H E).nox (defBody st) t ∧ t { nx := fun _ H' => Q .non H', rt := Q } (start N vs) H) : CalCK P w K mg base CX0 (k + 1) x C ps n ks sp := by
  obtain ⟨f, fd, hx, hm, hF, hb⟩ := F.ex
  exact ⟨f, fd, hx, hm, hb, hF.ok S len fun cdv A outer s H vs Q E => hbody f cdv A outer s H vs Q E⟩
end
section
variable {X : Cx} {CX : CXT} {k n : Nat} {ps ks : List Str} {sp : Sp} {E : XK} {x : Str} {p pos : Pos} {e : Expr} {es : List Expr} {kws : List Keyword} {t tk : TA} {C : Addr}
theorem pe_mkCK (M : CalCK X.prog X.w X.K X.mg X.base CX k x C ps n ks sp) (hr : Room (k + 1) X.A) (hg : Gl X x) (hx : Passes CX X E) (ha : PA X (e :: es) t) (hkw : PK X kws tk)
    (hall : (backToKw pos (keywordEach kws X.env)).all (·.1.isSome) = true := by rfl) (hks : (backToKw pos (keywordEach kws X.env)).filterMap (·.1) = ks := by rfl) (hdb : (x == ("__debug__" : Str)) = false := by decide)
    (he : starEach (e :: es) X.env = (false, eval e X.env) :: starEach es X.env := by rfl) (hpl : ((backTo pos (starEach (e :: es) X.env)).any (·.1) || (backToKw pos (keywordEach kws X.env)).any (·.1.isNone)) = false := by rfl) :
    PE X (.Call (.Name x p) (e :: es) kws pos) (tMakeK C n ks.length sp (fun vs zs => vs ++ zs) E t tk) := by
  obtain ⟨f, fd, hm, hM, hb, F⟩ := M.ex
  exact pe_makeK hM F hr hg hm hb hx ha hkw hall hks hdb he hpl
end
end Pd
namespace Wl
open PySem PySem.Spec PyProof.Rows L2 Evl Pd
section
variable {K : PySem.W.Frag} {XX : XP}
@[simp] def wMakeKW (C : Addr) (n m : Nat) (D : List PyData → Lh → Wv → Prop) (a b : WA) : WE := fun ρ h P => a ρ h fun ds h1 => b ρ h1 fun es h2 => ds.length = n ∧ es.length = m ∧ ∀ x, h2 x = none → D (rf x :: (ds ++ es)) (up h2 x (.ins C [])) (fun d h3 => d = .none ∧ P (rf x) h3)
instance (priority := high) {D : List PyData → Lh → Wv → Prop} {C : Addr} {n m : Nat} {E : XK} {ta tb : TA} {a b : WA} [A : RA K XX ta a] [B : RA K XX tb b] : RE K XX (tMakeK C n m (SpX K fun ds h P _ => D ds h P) (fun vs zs => vs ++ zs) E ta tb) (wMakeKW C n m D a b) := ⟨fun {N σ H ρ h P Q} S E0 p k =>
  A.run S E0 p fun vs ds H1 h1 t1 S1 r1 p1 => B.run S1 (E0.tr t1) p1 fun zs es H2 h2 t2 S2 r2 ⟨l1, l2, p2⟩ => ⟨by rw [r1.length]; exact l1, by rw [r2.length]; exact l2, fun x dx hx hdx ne => by
    obtain ⟨t3, S3⟩ := make_sim (C := C) S2.toSim hx hdx ne
    refine ⟨N, _, rf x :: (ds ++ es), _, _, Sx.noX S3, ?_, p2 x (S2.hn hx), fun v d H4 h4 t4 S4 r4 ⟨e, p4⟩ => ?_⟩
    · exact .cons (.rf x) ((r1.tr (t2.trans t3)).append (r2.tr t3))
    · subst e
      exact ⟨r4.n, (k.tr (((t1.trans t2).trans t3).trans t4)).at (S2.to (t3.trans t4) S4.toSim) (.rf x) p4⟩⟩⟩
end
end Wl
set_option Elab.async false
set_option linter.all false
set_option maxRecDepth 100000
set_option maxHeartbeats 2000000
/-! Wo: a list against []. -/
namespace Pd
open PySem PySem.Spec PyProof.Rows L2 Evl
def rNeL0 (K : PySem.W.Frag) : R2 := fun x y H Q => ∃ a b xs, x = .ref a ∧ y = .ref b ∧ SqL K H a xs ∧ SqL K H b [] ∧ Q (.bl (!xs.isEmpty)) H
def rEqL0 (K : PySem.W.Frag) : R2 := fun x y H Q => ∃ a b xs, x = .ref a ∧ y = .ref b ∧ SqL K H a xs ∧ SqL K H b [] ∧ Q (.bl xs.isEmpty) H
theorem op_neL0 {X : Cx} (hu : X.A.units + 64 < cLine) : OpR X (compareOp .NotEq) (rNeL0 X.K) := by
  intro pins s σ H x y v u Q I rx ry h
  obtain ⟨a, b, xs, rfl, rfl, ha, hb, q⟩ := h
  cases rx
  cases ry
  obtain ⟨its, rv, ⟨o, n, ho, hc, _, hd⟩, _⟩ := I.list ha
  obtain ⟨its2, rv2, ⟨o2, n2, ho2, hc2, _, hd2⟩, _⟩ := I.list hb
  have l1 : xs.length = its.toArray.size := by simpa using rv.length
  have l2 : its2.toArray.size = 0 := by simpa using rv2.length.symm
  have hl : s.heap.IsList a its.toArray := ⟨o, ho, hc, n, hd⟩
  have hl2 : s.heap.IsList b its2.toArray := ⟨o2, ho2, hc2, n2, hd2⟩
  have q' : ∃ v H', Inv X pins σ H' s ∧ RelV v (.bool (!xs.isEmpty)) ∧ Q v H' := ⟨.bl _, H, I, rfl, q⟩
  have s2 := l2
  by_cases hz : its.toArray.size = its2.toArray.size
  · have he : xs.isEmpty = true := by
      cases xs with
      | nil => rfl
      | cons x xs => rw [l2] at hz; rw [← l1] at hz; simp at hz
    have hr : (!(List.range its.toArray.size).all (fun _ => true)) = (!xs.isEmpty) := by rw [he]; simp
    exact SeqAt.RcNeAt.lists (e := fun _ => true) hl hl2 hz (by omega) (fun j h1 h2 => by omega) _ _ _ _ (by rw [hr]; exact q')
  · have he : xs.isEmpty = false := by
      cases xs with
      | nil => rw [l2] at hz; rw [← l1] at hz; exact absurd rfl hz
      | cons x xs => rfl
    have hr : true = (!xs.isEmpty) := by rw [he]; rfl
    exact SeqAt.RcNeAt.lists_lengths hl hl2 (by simpa using hz) (by omega) _ _ _ _ (by rw [hr]; exact q')
theorem op_eqL0 {X : Cx} (hu : X.A.units + 64 < cLine) : OpR X (compareOp .Eq) (rEqL0 X.K) := by
  intro pins s σ H x y v u Q I rx ry h
  obtain ⟨a, b, xs, rfl, rfl, ha, hb, q⟩ := h
  cases rx
  cases ry
  obtain ⟨its, rv, ⟨o, n, ho, hc, _, hd⟩, _⟩ := I.list ha
  obtain ⟨its2, rv2, ⟨o2, n2, ho2, hc2, _, hd2⟩, _⟩ := I.list hb
  have l1 : xs.length = its.toArray.size := by simpa using rv.length
  have l2 : its2.toArray.size = 0 := by simpa using rv2.length.symm
  have hl : s.heap.IsList a its.toArray := ⟨o, ho, hc, n, hd⟩
  have hl2 : s.heap.IsList b its2.toArray := ⟨o2, ho2, hc2, n2, hd2⟩
  have q' : ∃ v H', Inv X pins σ H' s ∧ RelV v (.bool (xs.isEmpty)) ∧ Q v H' := ⟨.bl _, H, I, rfl, q⟩
  have s2 := l2
  by_cases hz : its.toArray.size = its2.toArray.size
  · have he : xs.isEmpty = true := by
      cases xs with
      | nil => rfl
      | cons x xs => rw [l2] at hz; rw [← l1] at hz; simp at hz
    have hr : ((List.range its.toArray.size).all (fun _ => true)) = (xs.isEmpty) := by rw [he]; simp
    exact SeqAt.RcAt.lists (e := fun _ => true) hl hl2 hz (by omega) (fun j h1 h2 => by omega) _ _ _ _ (by rw [hr]; exact q')
  · have he : xs.isEmpty = false := by
      cases xs with
      | nil => rw [l2] at hz; rw [← l1] at hz; exact absurd rfl hz
      | cons x xs => rfl
    have hr : false = (xs.isEmpty) := by rw [he]
    exact SeqAt.RcAt.lists_lengths hl hl2 (by simpa using hz) (by omega) _ _ _ _ (by rw [hr]; exact q')
theorem k_neL0 {X : Cx} {K : PySem.W.Frag} (hK : X.K = K) (hu : X.A.units + 64 < cLine) : OpR X (compareOp .NotEq) (rNeL0 K) := by subst hK; exact op_neL0 hu
theorem k_eqL0 {X : Cx} {K : PySem.W.Frag} (hK : X.K = K) (hu : X.A.units + 64 < cLine) : OpR X (compareOp .Eq) (rEqL0 K) := by subst hK; exact op_eqL0 hu
end Pd
namespace Wl
open PySem PySem.Spec PyProof.Rows L2 Evl Pd
section
variable {K : PySem.W.Frag} {XX : XP}
@[simp] def fNeL0 (d e : PyData) (h : Lh) (P : Wv) : Prop := e = .list [] ∧ ∃ ds, lv h d = some ds ∧ P (.bool (!ds.isEmpty)) h
@[simp] def fEqL0 (d e : PyData) (h : Lh) (P : Wv) : Prop := e = .list [] ∧ ∃ ds, lv h d = some ds ∧ P (.bool ds.isEmpty) h
theorem isEmpty_rls {N : Addr → Prop} {H : Hp} {h : Lh} {xs : List V} {ds : List PyData} (r : Rls K N H h xs ds) : xs.isEmpty = ds.isEmpty := by cases r <;> rfl
instance : R2W K (rNeL0 K) fNeL0 := ⟨fun {XX N H h x y d e P Q} S a c ⟨e1, ds, e2, p⟩ k => by
  subst e1
  obtain ⟨p1, xs, rfl, s1, r1⟩ := a.lv S e2
  obtain ⟨p2, ys, rfl, s2, r2⟩ := c.l
  cases r2
  exact ⟨p1, p2, xs, rfl, rfl, s1, s2.sq, by rw [isEmpty_rls r1]; exact k.at S (.bl _) p⟩⟩
instance : R2W K (rEqL0 K) fEqL0 := ⟨fun {XX N H h x y d e P Q} S a c ⟨e1, ds, e2, p⟩ k => by
  subst e1
  obtain ⟨p1, xs, rfl, s1, r1⟩ := a.lv S e2
  obtain ⟨p2, ys, rfl, s2, r2⟩ := c.l
  cases r2
  exact ⟨p1, p2, xs, rfl, rfl, s1, s2.sq, by rw [isEmpty_rls r1]; exact k.at S (.bl _) p⟩⟩
end
end Wl
set_option Elab.async false
set_option linter.all false
set_option maxRecDepth 100000
set_option maxHeartbeats 2000000
/-! Wp: more. -/
namespace Pd
open PySem PySem.Spec PyProof.Rows L2 Evl
theorem k_sum {X : Cx} {K : PySem.W.Frag} (hK : X.K = K) (hc : X.calm = true) : CallR X (.builtin "sum") (rSum K) := by subst hK; exact cr_sum hc
theorem k_match {X : Cx} {K : PySem.W.Frag} (hK : X.K = K) {e : Expr} {te : TE} {cases : List MatchCase} {tm : TMc} {pos : Pos} (he : PE X e te) (hm : PMc X cases tm) : PS X (.Match e cases pos) (tMatch K te tm) := by subst hK; exact ps_match he hm
end Pd
namespace Wl
open PySem PySem.Spec PyProof.Rows L2 Evl Pd
theorem putD_new {kvs : List (Key × PyData)} {k : Key} {v : PyData} (h : k ∉ kvs.map (·.1)) : putD kvs k v = kvs ++ [(k, v)] := by
  induction kvs with
  | nil => rfl
  | cons p r ih =>
    rw [List.map_cons, List.mem_cons, not_or] at h
    unfold putD
    rw [if_neg (fun z => h.1 z.symm), ih h.2]; rfl
theorem lcL_id {keep : Lh → Prop} {g : WG} {e : WE} {ρ : Ev'} {P : List PyData → Lh → Prop} {h : Lh} {l : List PyData} (f : PyData → PyData) (hk : keep h) (hz : l.length ≤ 100000)
    (hs : ∀ a ∈ l, ∀ F : PyData → Lh → Prop, F (f a) h → g a ρ h fun ρ1 h1 => e ρ1 h1 F) (hd : P (l.map f) h) : lcL keep g wYes e ρ P l [] h := by
  have := lcL_map (emb := fun x => x) f hk hz hs hd
  rwa [List.map_id'] at this
theorem dcL_map {α : Type} {keep : Lh → Prop} {g : WG} {ek ev : WE} {ρ : Ev'} {P : List (Key × PyData) → Lh → Prop} {h : Lh} {l : List α} {emb : α → PyData} (kf : α → Key) (vf : α → PyData) (hk : keep h) (hz : l.length ≤ 100000) (nd : (l.map kf).Nodup)
    (hs : ∀ a ∈ l, ∀ F : PyData → PyData → Lh → Prop, F (keyP (kf a)) (vf a) h → g (emb a) ρ h fun ρ1 h1 => ek ρ1 h1 fun y h3 => ev ρ1 h3 fun x h4 => F y x h4)
    (hd : P (l.map fun a => (kf a, vf a)) h) : dcL keep g wYes ek ev ρ P (l.map emb) [] h := by
  suffices H : ∀ (done rest : List α), l = done ++ rest → dcL keep g wYes ek ev ρ P (rest.map emb) (done.map fun a => (kf a, vf a)) h from H [] l rfl
  intro done rest
  induction rest generalizing done with
  | nil =>
    intro e
    rw [List.append_nil] at e
    subst e
    exact ⟨hk, hd⟩
  | cons a rest ih =>
    intro e
    refine ⟨hk, ?_, ?_⟩
    · rw [e, List.length_append, List.length_cons] at hz
      rw [List.length_map]; omega
    · have := hs a (by rw [e]; simp) (fun y x h4 => ∃ k, keyD y = some k ∧ dcL keep g wYes ek ev ρ P (rest.map emb) (putD (done.map fun a => (kf a, vf a)) k x) h4) ⟨kf a, by cases kf a <;> rfl, by
        rw [putD_new (fun z => ?_)]
        · have := ih (done ++ [a]) (by rw [e]; simp)
          rw [List.map_append] at this
          exact this
        · rw [e, List.map_append, List.map_cons, List.nodup_append] at nd
          rw [List.map_map] at z
          exact nd.2.2 _ z _ (List.mem_cons_self ..) rfl⟩
      simp only [wYes, wCond_t]
      exact this
theorem dcL_run {keep : Lh → Prop} {g : WG} {t : WT} {ek ev : WE} {ρ : Ev'} {P : List (Key × PyData) → Lh → Prop} (I : List PyData → List (Key × PyData) → Lh → Prop)
    (hs : ∀ d ds acc h, I (d :: ds) acc h → keep h ∧ acc.length < 100000 ∧ ∀ F : List (Key × PyData) → Lh → Prop, (∀ acc h, I ds acc h → F acc h) → g d ρ h fun ρ1 h1 => t ρ1 h1 fun b h2 => wCond b (ek ρ1 h2 fun y h3 => ev ρ1 h3 fun x h4 => ∃ k, keyD y = some k ∧ F (putD acc k x) h4) (F acc h2))
    (hd : ∀ acc h, I [] acc h → keep h ∧ P acc h) : ∀ {ds acc h}, I ds acc h → dcL keep g t ek ev ρ P ds acc h
  | [], _, _, i => hd _ _ i
  | d :: ds, _, _, i => ⟨(hs _ _ _ _ i).1, (hs _ _ _ _ i).2.1, (hs _ _ _ _ i).2.2 _ fun _ _ j => dcL_run I hs hd j⟩
end Wl
set_option Elab.async false
set_option linter.all false
set_option maxRecDepth 100000
set_option maxHeartbeats 2000000
/-! Wq: t[::-1]. -/
namespace HT
open PySem PyProof.Rows
open PySem.SeqAt
open PySem.AutoSeq1 (wpAny_loadPart')
open PySem.MeetsSeq PySem.MeetsSeq2 PySem.MeetsSeq3 PySem.W
section
variable {prog : Program} {w : World} {A : Around} {E : Value → Shared → Prop} {s : Shared}
theorem sliceApplied_rev {sl : Addr} {vs : Value} {n : Nat} {Q : Int × Int × Nat → Shared → Prop} (hs : s.heap.IsSliceOf sl .none .none vs) (ps : IsPart vs (some (-1)))
    (h : Q ((n : Int) - 1, -1, n) s) : wpAny (model prog w) A (Builtin.Slice.sliceApplied (.ref sl) (pure (n : Int))) Q E s := by
  obtain ⟨os, hos, hcs, hds⟩ := id hs
  unfold Builtin.Slice.sliceApplied Builtin.Slice.sliceFields
  refine wpAny_bind (wpAny_bind (wpAny_field hos hds (x := .none) rfl (wpAny_bind (wpAny_field hos hds (x := .none) rfl (wpAny_bind (wpAny_field hos hds (x := vs) rfl (wpAny_pure ?_)))))))
  refine wpAny_bind (slicePart_ ps ?_)
  show wpAny _ _ (if ((-1 : Int) == 0) = true then _ else _) _ _ s
  rw [if_neg (by decide)]
  refine wpAny_bind (slicePart_ .none (wpAny_bind (slicePart_ .none (wpAny_bind (wpAny_pure ?_)))))
  have e : Builtin.Slice.slicePlaces ((n : Int) - 1) (-1) (-1) = n := by
    unfold Builtin.Slice.slicePlaces
    rw [if_neg (by decide), show (- -1 : Int) = 1 by decide, Int.ediv_one]
    split <;> omega
  show wpAny _ _ (pure ((n : Int) - 1, (-1 : Int), Builtin.Slice.slicePlaces ((n : Int) - 1) (-1) (-1))) _ _ s
  rw [e]
  exact wpAny_pure h
theorem fm_congr {α β : Type} {f g : α → Option β} : ∀ {l : List α}, (∀ a ∈ l, f a = g a) → l.filterMap f = l.filterMap g
  | [], _ => rfl
  | a :: l, h => by
    rw [List.filterMap_cons, List.filterMap_cons, h a (by simp), fm_congr fun b hb => h b (List.mem_cons_of_mem _ hb)]
theorem pick_rev (xs : Array Value) : ((List.range xs.size).filterMap fun (m : Nat) => xs[(((xs.size : Nat) : Int) - 1 + (m : Int) * (-1)).toNat]?).toArray = xs.toList.reverse.toArray := by
  have h := krv_pick xs
  unfold slicePick at h
  rw [krv_bounds] at h
  change ((sliceRange ((xs.size : Int) - 1) (-1) (-1)).filterMap (xs[·]?)).toArray = _ at h
  rw [krv_sliceRange, List.filterMap_map] at h
  rw [← h]
  congr 1
  refine fm_congr fun m hm => ?_
  have hm := List.mem_range.mp hm
  have e : (((xs.size : Nat) : Int) - 1 + (m : Int) * (-1)).toNat = xs.size - 1 - m := by omega
  rw [e]; rfl
theorem getItem_tuple_rev {t sl : Addr} {items : Array Value} {vs : Value} {Q : Value → Shared → Prop} (ht : IsTup s.heap t items) (hs : s.heap.IsSliceOf sl .none .none vs) (ps : IsPart vs (some (-1)))
    (h : Q (.ref s.heap.objs.size) { s with heap := s.heap.push { cls := .type "tuple", data := .seq items.toList.reverse.toArray } })
    (hsz : items.size ≤ sizeLine) : wpAny (model prog w) A (getItem (.ref t) (.ref sl)) Q E s := by
  have htake : sizeOk (.seq items.toList.reverse.toArray) := by
    show items.toList.reverse.toArray.size ≤ sizeLine
    simpa using hsz
  obtain ⟨os, hos, hcs, hds⟩ := id hs
  have hTs : s.TypeIs (.ref sl) "slice" := ⟨os, hos, hcs⟩
  unfold getItem
  try with_reducible refine wpAny_holding ?_
  first | refine wpAny_bind (wpAny_pure ?_) | skip
  refine wpAny_bind (wpAny_sequenceKey ht.typeIs (by decide) ?_)
  refine wpAny_bind (wpAny_callSpecial?_slot (name := Str.ofString "__getitem__") ht.typeIs PyProof.Rows.slot_tuple_getitem
    (wpAny_call_entry PyProof.Rows.slot_tuple_getitem ht.typeIs entry_tuple_getitem ?_ (args_tuple_getitem _ _)))
  show wpAny _ _ (Builtin.Tuple.tupleItemsOf (.ref t) >>= _) _ _ s
  refine wpAny_bind (tupleItemsOf_ ht ?_)
  refine wpAny_bind (wpAny_typeOf hTs ?_)
  rw [if_pos (by decide)]
  refine wpAny_bind (sliceApplied_rev hs ps ?_)
  have hno : ¬ (((((items.size : Nat) : Int) - 1 == 0) && ((-1 : Int) == 1) && (items.size == items.size)) = true) := by
    intro q
    rw [Bool.and_eq_true, Bool.and_eq_true] at q
    exact absurd (eq_of_beq q.1.2) (by decide)
  show wpAny _ _ (if (((((items.size : Nat) : Int) - 1 == 0) && ((-1 : Int) == 1) && (items.size == items.size)) = true) then _ else _) _ _ s
  rw [if_neg hno, pick_rev]
  first
    | exact wpAny_bind (m := Builtin.Tuple.tupleExact _) (wpAny_newObj_type (wpAny_pure ⟨_, rfl, wpAny_pure h⟩) htake)
    | exact wpAny_bind (m := Builtin.Tuple.tupleExact _) (wpAny_newObj_type (wpAny_bind (wpAny_pure (wpAny_pure ⟨_, rfl, wpAny_pure h⟩))) htake)
end
end HT
namespace Pd
open PySem PySem.Spec PyProof.Rows L2 Evl
def tRevT (K : PySem.W.Frag) (te : TE) : TE := fun σ H Q => te σ H fun x H1 => ∃ a xs, x = .ref a ∧ SqT K H1 a xs ∧ ∀ p, H1 p = none → Q (.ref p) (upd H1 p (.tup xs.reverse))
theorem pe_revT {X : Cx} {e : Expr} {te : TE} {k : Nat} {p1 p2 p3 pos : Pos} (he : PE X e te) : PE X (.Subscript e (.Slice none none (some (.UnaryOp .USub (.Constant (.int 1) k p1) p2)) p3) pos) (tRevT X.K te) := by
  refine ⟨fun pins s σ H Q I h => ?_⟩
  refine Subscript_ (thn (he.run pins s σ H _ I h) fun v s1 ⟨x, H1, I1, r1, q1⟩ => ?_)
  obtain ⟨a, xs, ex, hx, q⟩ := q1
  subst ex
  cases r1
  have hst : PO X (some (.UnaryOp .USub (.Constant (.int 1) k p1) p2)) (tPart (tUn (rU fun i => .int (-i)) (tC (.int 1)))) := po_some (pe_un un_neg pe_int)
  refine wpAny_Slice (thn (po_none.run pins s1 σ H1 (fun o H2 => o = none ∧ H2 = H1) I1 ⟨rfl, rfl⟩) fun vl s2 ⟨l, H2, I2, pl, el, e2⟩ => ?_)
  subst el e2
  refine thn (po_none.run pins s2 σ H2 (fun o H3 => o = none ∧ H3 = H2) I2 ⟨rfl, rfl⟩) fun vu s3 ⟨u, H3, I3, pu, eu, e3⟩ => ?_
  subst eu e3
  refine thn (hst.run pins s3 σ H3 (fun o H4 => o = some (-1) ∧ H4 = H3) I3 ⟨1, rfl, -1, rfl, rfl, rfl⟩) fun vs s4 ⟨o, H4, I4, ps, eo, e4⟩ => ?_
  subst eo e4
  have I5 : Inv X pins σ H4 { s4 with heap := s4.heap.push { cls := .type "slice", data := .fields #[vl, vu, vs] } } := I4.kept (t' := s4.toks) fun b ob q => Heap.get?_push_of_some _ q
  obtain ⟨its, r, ht, hz⟩ := I5.tuple hx
  have hlen := r.length
  cases pl
  cases pu
  show wpAny (model X.prog X.w) X.A (subscriptTail e (.Slice none none (some (.UnaryOp .USub (.Constant (.int 1) k p1) p2)) p3) (.ref a) (.ref s4.heap.objs.size)) (EP X pins σ Q) X.xe { s4 with heap := s4.heap.push { cls := .type "slice", data := .fields #[.none, .none, vs] } }
  refine tail_any (ops := [.ref a, .ref s4.heap.objs.size]) ht.typeIs (PyProof.Rows.slot_tuple_getitem.lookup) ?_ (by with_unfolding_all rfl)
  refine HT.getItem_tuple_rev ht (Heap.IsSliceOf.new _ .none .none vs) ps ?_ (by rw [List.size_toArray]; omega)
  refine ⟨.ref _, _, I5.laid (t' := s4.toks) (o := .tup xs.reverse) (fun b ob q => Heap.get?_push_of_some _ q) (Nat.le_refl _) ?_, rfl, q _ (I5.hok.fresh (Nat.le_refl _))⟩
  exact ⟨by rw [List.length_reverse]; exact hz, _, r.reverse, IsTup.new _ _⟩
theorem k_revT {X : Cx} {K : PySem.W.Frag} (hK : X.K = K) {e : Expr} {te : TE} {k : Nat} {p1 p2 p3 pos : Pos} (he : PE X e te) : PE X (.Subscript e (.Slice none none (some (.UnaryOp .USub (.Constant (.int 1) k p1) p2)) p3) pos) (tRevT K te) := by subst hK; exact pe_revT he
theorem k_revL {X : Cx} {K : PySem.W.Frag} (hK : X.K = K) {e : Expr} {te : TE} {k : Nat} {p1 p2 p3 pos : Pos} (he : PE X e te) : PE X (.Subscript e (.Slice none none (some (.UnaryOp .USub (.Constant (.int 1) k p1) p2)) p3) pos) (tRevL K te) := by subst hK; exact pe_revL he
end Pd
namespace Wl
open PySem PySem.Spec PyProof.Rows L2 Evl Pd
section
variable {K : PySem.W.Frag} {XX : XP}
theorem Rls.rev {N : Addr → Prop} {H : Hp} {h : Lh} : ∀ {ds : List PyData} {vs : List V}, Rls K N H h vs ds → Rls K N H h vs.reverse ds.reverse
  | [], _, r => by cases r; exact .nil
  | d :: ds, _, r => by
    cases r with
    | cons a b => rw [List.reverse_cons, List.reverse_cons]; exact (Rls.rev b).append (.cons a .nil)
@[simp] def wRevT (a : WE) : WE := fun ρ h P => a ρ h fun d h1 => ∃ ds, tv d = some ds ∧ P (.tuple ds.reverse) h1
@[simp] def wRevL (a : WE) : WA := fun ρ h P => a ρ h fun d h1 => ∃ ds, lv h1 d = some ds ∧ P ds.reverse h1
instance {te : TE} {a : WE} [A : RE K XX te a] : RE K XX (tRevT K te) (wRevT a) := ⟨fun {N σ H ρ h P Q} S E p k => A.run S E p fun v d H1 h1 t1 S1 r1 ⟨ds, e, p1⟩ => by
  obtain ⟨b, xs, rfl, q1, q2⟩ := (r1.tvt e).t
  exact ⟨b, xs, rfl, q1.sq, fun p hp => (k.tr t1).tup S1 hp q2.rev p1⟩⟩
instance {te : TE} {a : WE} [A : RE K XX te a] : RN K XX (tRevL K te) (wRevL a) := ⟨fun {N σ H ρ h P Q} S E p k => A.run S E p fun v d H1 h1 t1 S1 r1 ⟨ds, e, p1⟩ => by
  obtain ⟨b, xs, rfl, q1, q2⟩ := r1.lv S1 e
  exact ⟨b, xs, rfl, q1, fun p hp => (k.tr t1).new S1 hp q2.rev p1⟩⟩
@[simp] def wIEnumT (a : WA) : WI := fun ρ h P => a ρ h fun es h1 => ∃ d ds, es = [d] ∧ tv d = some ds ∧ P (Pd.numbered 0 ds) (fun _ => True) h1
instance {ta : TA} {a : WA} [A : RA K XX ta a] : RI K XX (iEnumT K ta) (wIEnumT a) := ⟨fun {N σ H ρ h P R} S E p k => A.run S E p fun vs es H1 h1 t1 S1 r1 ⟨d, ds, e0, e, p1⟩ => by
  subst e0
  obtain ⟨v, rfl, rv⟩ := r1.one
  obtain ⟨q, xs, rfl, t, rs⟩ := rv.tup' e
  refine ⟨q, xs, rfl, t.sq, k _ H1 h1 (Pd.numbered 0 ds) _ (fun H => SqT K H q xs) (YPair (fun i => some (.int (i : Nat))) (fun i => xs[i]?)) t1 S1 p1 (by rw [Pd.numbered_length, ← rs.length]; exact walk_enumT) (fun N' H3 h3 _ t3 _ _ => t.tr (N' := N) t3) fun N' i H3 h3 x H4 hN t3 S3 _ yy => ?_⟩
  obtain ⟨T, x, y, rfl, hT, rfl, hx, hy⟩ := yy
  cases hx
  obtain ⟨d', hd, r⟩ := rs.get hy
  have := Pd.numbered_get ds 0 i d' hd
  rw [Nat.zero_add] at this
  exact ⟨_, this, Tr.new hT, Ex.new hT, S3.new hT, .tup (.inl ⟨.inl upd_same, S3.hn hT, S3.nn hT⟩) (.cons (.int _) (.cons (((r.hid hN).tr t3).tr (Tr.new hT)) .nil))⟩⟩
end
/-- one statement, the rest unseen -/
theorem wSeq_step {a b : WS} {E : WEnds} {ρ : Ev'} {h : Lh} (H : ∀ B : WS, B = b → wSeq a B E ρ h) : wSeq a b E ρ h := H b rfl
theorem wIfS_step {t : WT} {a b : WS} {E : WEnds} {ρ : Ev'} {h : Lh} (H : ∀ A B : WS, A = a → B = b → wIfS t A B E ρ h) : wIfS t a b E ρ h := H a b rfl rfl
theorem lcL_filter {α : Type} {keep : Lh → Prop} {g : WG} {tt : WT} {e : WE} {ρ : Ev'} {P : List PyData → Lh → Prop} {h : Lh} {l : List α} {emb : α → PyData} (q : α → Bool) (f : α → PyData) (hk : keep h) (hz : l.length ≤ 100000)
    (hs : ∀ a ∈ l, ∀ (F : PyData → Lh → Prop) (F0 : Lh → Prop), (q a = true → F (f a) h) → (q a = false → F0 h) → g (emb a) ρ h fun ρ1 h1 => tt ρ1 h1 fun b h2 => wCond b (e ρ1 h2 F) (F0 h2)) (hd : P ((l.filter q).map f) h) : lcL keep g tt e ρ P (l.map emb) [] h := by
  have key : ∀ (m k : List α), k ++ m = l → lcL keep g tt e ρ P (m.map emb) ((k.filter q).map f) h := by
    intro m
    induction m with
    | nil => intro k z; rw [List.append_nil] at z; subst z; exact ⟨hk, hd⟩
    | cons a m ih =>
      intro k z
      have hl : (k.filter q).length ≤ k.length := List.length_filter_le _ _
      refine ⟨hk, by rw [List.length_map]; have := congrArg List.length z; simp at this; omega, ?_⟩
      have ih' := ih (k ++ [a]) (by rw [List.append_assoc]; exact z)
      rw [List.filter_append, List.map_append] at ih'
      refine hs a (by rw [← z]; simp) (fun x h3 => lcL keep g tt e ρ P (m.map emb) ((k.filter q).map f ++ [x]) h3) (fun h3 => lcL keep g tt e ρ P (m.map emb) ((k.filter q).map f) h3) (fun c => ?_) (fun c => ?_)
      · simpa [List.filter, c] using ih'
      · simpa [List.filter, c] using ih'
  exact key l [] rfl
end Wl
set_option Elab.async false
set_option linter.all false
set_option maxRecDepth 100000
set_option maxHeartbeats 4000000
/-! Xs: sorted of a list of ints. -/
namespace Wl
open PySem PySem.Spec PyProof.Rows L2 Evl Pd
theorem k_sortedI {X : Cx} {K : PySem.W.Frag} (hK : X.K = K) : CallR X (.builtin "sorted") (rSortedI K) := by subst hK; exact cr_sortedI
section
variable {K : PySem.W.Frag} {XX : XP} {N : Addr → Prop} {H : Hp} {h : Lh}
theorem Rls.ofIntsS : ∀ {ns : List Int} {vs : List V}, Rls K N H h vs (ns.map PyData.int) → vs = ns.map V.int
  | [], _, r => by cases r; rfl
  | s :: ss, _, r => by cases r with | cons a b => rw [a.i, Rls.ofIntsS b]; rfl
@[simp] def fSortedI (ds : List PyData) (h : Lh) (P : List PyData → Lh → Prop) : Prop := ∃ (d : PyData) (ns : List Int), ds = [d] ∧ Wl.lv h d = some (ns.map PyData.int) ∧ ∀ L : List Int, L.Perm ns → L.Pairwise (· ≤ ·) → P (L.map PyData.int) h
instance : RCN K (rSortedI K) fSortedI := ⟨fun {XX N H h xs ds P Q} S r ⟨d, ns, e1, e2, q⟩ k => by
  subst e1
  obtain ⟨v, rfl, i⟩ := r.one
  obtain ⟨a, vs, rfl, t, rr⟩ := i.lv S e2
  cases rr.ofIntsS
  exact ⟨a, ns, rfl, t, fun ns' p pm pw hp => k.new S hp (Rls.ints ns') (q ns' pm pw)⟩⟩
end
end Wl
namespace Wl
open PySem PySem.Spec PyProof.Rows L2 Evl Pd
theorem k_index {X : Cx} {K : PySem.W.Frag} (hK : X.K = K) {o e : Expr} {es : List Expr} {to : TE} {t : TA} {apos cpos : Pos} (ho : PE X o to) (ha : PA X (e :: es) t)
    (hbase : attributeBase o "index" X.env (eval o X.env) = eval o X.env := by rfl)
    (hfew : ((backTo cpos (starEach (e :: es) X.env)).all (fun x => !x.1) && (backToKw cpos (keywordEach [] X.env)).all (fun x => x.1.isSome)
      && decide ((e :: es).length + ([] : List Keyword).length + (if ([] : List Keyword).isEmpty then 0 else 1) < 30)) = true := by rfl)
    (hline : (apos.endLine == cpos.line) = true := by rfl)
    (hs : starEach (e :: es) X.env = (false, eval e X.env) :: starEach es X.env := by rfl) (hpl : (backTo cpos (starEach es X.env)).any (·.1) = false := by rfl) :
    PE X (.Call (.Attribute o "index" apos) (e :: es) [] cpos) (tBM K "list" (rIndex K) to t) := by subst hK; exact pe_bm PySem.F.plainAttrs_list PySem.F.slot_list_index PySem.F.type_list_index mt_index ho ha hbase hfew hline hs hpl
section
variable {K : PySem.W.Frag} {XX : XP} {N : Addr → Prop} {H : Hp} {h : Lh}
@[simp] def fIndex (d : PyData) (es : List PyData) (h : Lh) (P : Wv) : Prop := ∃ ds e, es = [e] ∧ Wl.lv h d = some ds ∧ flat1 e = true ∧ ds.all flat1 = true ∧ ds.findIdx (fun z => eq1 z e) < ds.length ∧ P (.int ((ds.findIdx (fun z => eq1 z e) : Nat) : Int)) h
instance : RMW K (rIndex K) fIndex := ⟨fun {XX N H h x d xs es P Q} S rx rs ⟨ds, e, e1, e2, f1, f2, hl, p⟩ k => by
  subst e1
  obtain ⟨y, rfl, ry⟩ := rs.one
  obtain ⟨a, vs, rfl, t, rr⟩ := rx.lv S e2
  obtain ⟨z, hz, rz⟩ := rr.getD (List.getElem?_eq_getElem hl)
  refine ⟨a, vs, y, ds.findIdx (fun z => eq1 z e), z, rfl, rfl, t, by rw [ry.flat1]; exact f1, by rw [rr.flat1]; exact f2, hz, by rw [rz.eq1 ry]; exact List.findIdx_getElem (w := hl), fun m z' hm hz' => ?_, k.at S (.int _) p⟩
  obtain ⟨d', hd', rd'⟩ := rr.get hz'
  rw [rd'.eq1 ry]
  have hm2 : m < ds.length := by omega
  rw [List.getElem?_eq_getElem hm2] at hd'
  cases hd'
  exact List.not_of_lt_findIdx hm⟩
end
end Wl
set_option Elab.async false
set_option linter.all false
set_option maxRecDepth 100000
set_option maxHeartbeats 4000000
/-! Kx: a bare tuple of ints (it has no dict): made by tuple(list); its count(n). -/
namespace Pd
open PySem PySem.Spec PyProof.Rows L2 Evl
section
variable {X : Cx}
theorem call_tupB : CallR X (.type "tuple") (fun xs H Q => ∃ p ys, xs = [.ref p] ∧ SqL X.K H p ys ∧ ∀ l o, H l = none → o.dict = none → Q (.ref l) (upd H l (.frz o (.tup ys)))) := by
  intro pins s σ H xs us Q I r h
  obtain ⟨p, ys, rfl, hq, q⟩ := h
  obtain ⟨u, rfl, rx⟩ := vals1 r
  cases rx
  obtain ⟨its, r', pl, hz⟩ := I.list hq
  have hlen := r'.length
  refine call_tuple_list pl.isList (fun h' kp => ?_) (by simp only [List.size_toArray] <;> omega)
  have I1 : Inv X pins σ H { s with heap := h' } := I.kept (t' := s.toks) kp
  have I2 : Inv X pins σ (upd H h'.objs.size (.frz { cls := .type "tuple", data := .seq its.toArray } (.tup ys))) { s with heap := h'.push { cls := .type "tuple", data := .seq its.toArray } } :=
    I1.laid (t' := s.toks) (fun b o e => Heap.get?_push_of_some _ e) (Nat.le_refl _) ⟨Heap.get?_push_size _ rfl, hz, its, r', IsTup.new _ _⟩
  exact ⟨.ref h'.objs.size, _, I2, rfl, q _ _ (I1.hok.fresh (Nat.le_refl _)) rfl⟩
abbrev rTupB (K : PySem.W.Frag) : List V → Hp → VK → Prop := fun xs H Q => ∃ p ys, xs = [.ref p] ∧ SqL K H p ys ∧ ∀ l o, H l = none → o.dict = none → Q (.ref l) (upd H l (.frz o (.tup ys)))
theorem k_tupB {K : PySem.W.Frag} (hK : X.K = K) : CallR X (.type "tuple") (rTupB K) := by subst hK; exact call_tupB
def rCntI (K : PySem.W.Frag) : V → List V → Hp → VK → Prop := fun x xs H Q => ∃ (p : Addr) (ns : List Int) (k : Int), x = .ref p ∧ xs = [.int k] ∧ SqT K H p (ns.map V.int) ∧ Q (.int (ns.countP fun n => decide (n = k) : Nat)) H
theorem flat_intsV (ns : List Int) : (ns.map V.int).all flatV = true := by
  rw [List.all_eq_true]
  intro v hv
  obtain ⟨i, _, rfl⟩ := List.mem_map.mp hv
  rfl
theorem mt_tcountI : MtR X "tuple.count" (rCntI X.K) := by
  intro pins s σ H x xs v us Q I rx rxs h
  obtain ⟨p, ns, k, rfl, rfl, hs, q⟩ := h
  cases rx
  obtain ⟨u, rfl, ru⟩ := rxs.one
  obtain ⟨its, rv, ⟨⟨cls, dd, data, sl⟩, ho, hc, n, hd⟩, hlen⟩ := I.tuple hs
  simp only at hc hd
  subst hc hd
  refine call_meets PySem.F.slot_tuple_count ⟨_, ho, rfl⟩ PySem.F.entry_tuple_count (PySem.F.args_tuple_count_2 _ _)
    (SeqAt.tuple_countAt p its.toArray n dd sl u (eqU (.int k))) ⟨ho, fun y hy => mem_eqAt ru rfl rv (flat_intsV ns) y (by simpa using hy), ?_⟩
  have ec : its.toArray.toList.countP (eqU (.int k)) = ns.countP fun n => decide (n = k) := by
    show its.countP (eqU (.int k)) = _
    rw [countP_eqU rv (flat_intsV ns), List.countP_map]
    refine List.countP_congr fun a _ => ?_
    show (eqV (V.int a) (.int k) = true) ↔ _
    simp [eqV]
  refine ⟨.int (ns.countP (fun n => decide (n = k)) : Nat), H, I.tok _, ⟨s.toks, ?_⟩, q⟩
  show Value.int ((its.toArray.toList.countP (eqU (.int k)) : Nat) : Int) s.toks = Value.int ((ns.countP (fun n => decide (n = k)) : Nat) : Int) s.toks
  rw [ec]
def bareV (x : V) (H : Hp) : Prop := ∃ p o xs, x = .ref p ∧ H p = some (.frz o (.tup xs)) ∧ o.dict = none
/-- t.m(..) of a bare tuple -/
def tTM (K : PySem.W.Frag) (r : V → List V → Hp → VK → Prop) (to : TE) (t : TA) : TE := fun σ H Q => to σ H fun x H1 => bareV x H1 ∧ t σ H1 fun xs H2 => r x xs H2 Q
variable {o e : Expr} {es : List Expr} {to : TE} {t : TA} {name : Str} {apos cpos : Pos} {id : String} {r : V → List V → Hp → VK → Prop}
theorem pe_tm (pa : PlainAttrs "tuple") (slot : Slot "tuple" name id) (hty : typeOf (.builtin id) = pure (.type "method_descriptor")) (hm : MtR X id r) (ho : PE X o to) (ha : PA X (e :: es) t)
    (hbase : attributeBase o name X.env (eval o X.env) = eval o X.env := by rfl)
    (hfew : ((backTo cpos (starEach (e :: es) X.env)).all (fun x => !x.1) && (backToKw cpos (keywordEach [] X.env)).all (fun x => x.1.isSome)
      && decide ((e :: es).length + ([] : List Keyword).length + (if ([] : List Keyword).isEmpty then 0 else 1) < 30)) = true := by rfl)
    (hline : (apos.endLine == cpos.line) = true := by rfl) (hs : starEach (e :: es) X.env = (false, eval e X.env) :: starEach es X.env := by rfl) (hplain : (backTo cpos (starEach es X.env)).any (·.1) = false := by rfl) :
    PE X (.Call (.Attribute o name apos) (e :: es) [] cpos) (tTM X.K r to t) := by
  refine ⟨fun pins s σ H Q I h => ?_⟩
  refine wpAny_Call_method_late hbase hfew hline rfl (thn (ho.run pins s σ H _ I h) fun v s1 ⟨x, H1, I1, r1, ty, q1⟩ => ?_)
  obtain ⟨p, ob, xs, rfl, hp, hod⟩ := ty
  cases r1
  obtain ⟨hob, hz, its, rv, ⟨o2, ho2, hc, n, hd⟩⟩ := I1.hok p _ hp
  rw [hob] at ho2
  cases ho2
  refine ⟨"tuple", id, pa, slot, hty, ⟨ob, hob, hc⟩, fun a e2 => by cases e2; exact ⟨ob, hob, hod⟩, ?_⟩
  have hA := ha.run cpos pins s1 σ H1 _ I1 q1
  rw [hs] at hA ⊢
  refine Calls.callWith_builtin (by show (false || (backTo cpos (starEach es X.env)).any (·.1)) = false; rw [hplain] <;> rfl) (Calls.evalArgs_plain ?_)
  exact thn hA fun us s2 ⟨vs, H2, I2, r2, q2⟩ => hm pins s2 σ H2 (.ref p) vs (.ref p) us Q I2 rfl r2 q2
end
end Pd
namespace Wl
open PySem PySem.Spec PyProof.Rows L2 Evl Pd
theorem k_tcount {X : Cx} {K : PySem.W.Frag} (hK : X.K = K) {o e : Expr} {es : List Expr} {to : TE} {t : TA} {apos cpos : Pos} (ho : PE X o to) (ha : PA X (e :: es) t)
    (hbase : attributeBase o "count" X.env (eval o X.env) = eval o X.env := by rfl)
    (hfew : ((backTo cpos (starEach (e :: es) X.env)).all (fun x => !x.1) && (backToKw cpos (keywordEach [] X.env)).all (fun x => x.1.isSome)
      && decide ((e :: es).length + ([] : List Keyword).length + (if ([] : List Keyword).isEmpty then 0 else 1) < 30)) = true := by rfl)
    (hline : (apos.endLine == cpos.line) = true := by rfl)
    (hs : starEach (e :: es) X.env = (false, eval e X.env) :: starEach es X.env := by rfl) (hpl : (backTo cpos (starEach es X.env)).any (·.1) = false := by rfl) :
    PE X (.Call (.Attribute o "count" apos) (e :: es) [] cpos) (tTM K (rCntI K) to t) := by subst hK; exact pe_tm PySem.F.plainAttrs_tuple PySem.F.slot_tuple_count PySem.F.type_tuple_count mt_tcountI ho ha hbase hfew hline hs hpl
/-- a bare tuple of ints -/
abbrev bt (ns : List Int) : PyData := .dict [(.bool true, .tuple (ns.map PyData.int))]
section
variable {K : PySem.W.Frag} {XX : XP} {N : Addr → Prop} {H : Hp} {h : Lh}
theorem _root_.Wl.Rl.bare {v : V} {d : PyData} {ns : List Int} (r : Rl K N H h v d) (e : d = bt ns) : bareV v H := by
  cases r with
  | btp ns o a b c d => exact ⟨_, _, _, rfl, a, b⟩
  | _ => simp [bt] at e
@[simp] def wTM (f : PyData → List PyData → Lh → Wv → Prop) (a : WE) (b : WA) : WE := fun ρ h P => a ρ h fun d h1 => (∃ ns : List Int, d = bt ns) ∧ b ρ h1 fun es h2 => f d es h2 P
instance {r : V → List V → Hp → VK → Prop} {f : PyData → List PyData → Lh → Wv → Prop} {ta : TE} {tb : TA} {a : WE} {b : WA} [A : RE K XX ta a] [B : RA K XX tb b] [R : RMW K r f] : RE K XX (tTM K r ta tb) (wTM f a b) := ⟨fun S E p k =>
  A.run S E p fun v d H1 h1 t1 S1 r1 ⟨⟨ns, e⟩, p1⟩ => ⟨r1.bare (ns := ns) e, B.run S1 (E.tr t1) p1 fun vs es H2 h2 t2 S2 r2 p2 => R.run S2 (r1.tr t2) r2 p2 (k.tr (t1.trans t2))⟩⟩
@[simp] def fCountI (d : PyData) (es : List PyData) (h : Lh) (P : Wv) : Prop := ∃ (ns : List Int) (k : Int), d = bt ns ∧ es = [.int k] ∧ P (.int ((ns.countP fun n => decide (n = k) : Nat) : Int)) h
instance : RMW K (rCntI K) fCountI := ⟨fun {XX N H h x d xs es P Q} S rx rs ⟨ns, k, e1, e2, q⟩ ko => by
  subst e2
  subst e1
  obtain ⟨v, rfl, i⟩ := rs.one
  cases i.i
  obtain ⟨a, vs, rfl, t, rr⟩ := rx.tupw (show tw (bt ns) = some (ns.map .int) from rfl)
  cases rr.ofIntsS
  exact ⟨a, ns, k, rfl, rfl, t (Tr.refl _ _), ko.at S (.int _) q⟩⟩
@[simp] def fTupB (ds : List PyData) (h : Lh) (P : Wv) : Prop := ∃ (d : PyData) (ns : List Int), ds = [d] ∧ Wl.lv h d = some (ns.map PyData.int) ∧ P (bt ns) h
instance : RCW K (rTupB K) fTupB := ⟨fun {XX N H h xs ds P Q} S r ⟨d, ns, e, e2, p⟩ k => by
  subst e
  obtain ⟨v, rfl, i⟩ := r.one
  obtain ⟨a, vs, rfl, t, rr⟩ := i.lv S e2
  cases rr.ofIntsS
  exact ⟨a, _, rfl, t, fun l o hl ho => k _ _ _ h (Tr.new hl) (S.new hl) (.btp ns o upd_same ho (S.hn hl) (S.nn hl)) p⟩⟩
end
end Wl
namespace Pd
open PySem PySem.Spec PyProof.Rows L2 Evl
section
variable {X : Cx}
/-- x in t: data of any depth, t a tuple -/
def rInT (K : PySem.W.Frag) (neg : Bool) : R2 := fun x y H Q => ∃ d ds, Dp K H x d ∧ Dp K H y (.tuple ds) ∧ SeqAt.shaped d = true ∧ SeqAt.shaped (.tuple ds) = true ∧ Q (.bl (if neg then !ds.any fun z => PyData.eqv z d else ds.any fun z => PyData.eqv z d)) H
theorem room_in_shapedT {us : Nat} {d : PyData} {ds : List PyData} (se : SeqAt.shaped (.tuple ds) = true) (hu : us + 64 < cLine) : us + 1 + min (PyData.depthAll ds) d.depth < cLine := by
  have h1 : PyData.depth (.tuple ds) ≤ 64 := SeqAt.depth_of_shaped se
  rw [PyData.depth] at h1
  omega
theorem k_inT {K : PySem.W.Frag} (hK : X.K = K) (hu : X.A.units + 64 < cLine) : OpR X (compareOp .In) (rInT K false) := by
  subst hK
  intro pins s σ H x y v u Q I rx ry h
  obtain ⟨d, ds, hd, he, sd, se, q⟩ := h
  obtain ⟨as, r1⟩ := Dp.reads I d x v hd rx
  obtain ⟨bs, r2⟩ := Dp.reads I (.tuple ds) y u he ry
  exact SeqAt.in_tuple_reads r2 r1 (SeqAt.canLay_of_shaped se) (SeqAt.canLay_of_shaped sd) (room_in_shapedT se hu) ⟨.bl _, H, I, rfl, q⟩
end
end Pd
namespace Wl
open PySem PySem.Spec PyProof.Rows L2 Evl Pd
section
variable {K : PySem.W.Frag} {XX : XP} {N : Addr → Prop} {H : Hp} {h : Lh}
/-- x in t -/
def in2 (d : PyData) (ds : List PyData) : Bool := ds.any fun z => PyData.eqv z d
@[simp] theorem in2_nil {d : PyData} : Wl.in2 d [] = false := rfl
@[simp] theorem in2_cons {d e : PyData} {es : List PyData} : Wl.in2 d (e :: es) = (PyData.eqv e d || Wl.in2 d es) := rfl
@[simp] def fInT (neg : Bool) (d e : PyData) (h : Lh) (P : Wv) : Prop := ∃ ds, e = .tuple ds ∧ clean d = true ∧ cleans ds = true ∧ SeqAt.shaped d = true ∧ SeqAt.shaped (.tuple ds) = true ∧ P (.bool (if neg then !in2 d ds else in2 d ds)) h
instance (neg : Bool) : R2W K (rInT K neg) (fInT neg) := ⟨fun S a c ⟨ds, e, c1, c2, s1, s2, p⟩ k => by
  subst e
  exact ⟨_, ds, a.dp c1, c.dp (d := .tuple ds) c2, s1, s2, k.at S (.bl _) p⟩⟩
end
end Wl
set_option Elab.async false
set_option linter.all false
set_option maxRecDepth 100000
set_option maxHeartbeats 4000000
/-! Kz: xs[i] += n, a list of ints at any place. -/
namespace Pd
open PySem PySem.Spec PyProof.Rows L2 Evl
section
variable {X : Cx}
theorem get_list : PGet X (rIxL X.K) := by
  intro pins s σ H x y v u Q I rx ry h
  obtain ⟨p, xs, i, z, rfl, rfl, hq, he, q⟩ := h
  cases rx
  obtain ⟨t, rfl⟩ := ry
  obtain ⟨its, r, pl, hz⟩ := I.list hq
  obtain ⟨j, h1, h2, h3, h4, h5⟩ := atI_get he
  obtain ⟨w, ew, rw'⟩ := r.get h2
  have hl := r.length
  have hn := line63
  have fin : EP X pins σ Q w s := ⟨z, H, I, rw', q⟩
  by_cases h0 : 0 ≤ i
  · have hj : i.toNat = j := by
      rw [seqIndex_of h0 h5] at h1
      exact Option.some.inj h1
    exact wpAny_getItem_list pl.isList h0 (by omega) (by rw [hj]; simpa using ew) fin
  · have hj : (i + (its.toArray.size : Int)).toNat = j := by
      rw [seqIndex_neg (by omega) h4] at h1
      rw [List.size_toArray, ← hl]
      exact Option.some.inj h1
    exact wpAny_getItem_list_neg pl.isList (by omega) (by rw [List.size_toArray] <;> omega) (by omega) (by rw [hj]; simpa using ew) fin
theorem k_augL {K : PySem.W.Frag} (hK : X.K = K) {o i e : Expr} {to ti te : TE} {tip : TIp} {op : Operator} {tpos pos : Pos} (ho : PE X o to) (hi : PE X i ti) (he : PE X e te) (hp : PIp X op tip)
    (ha : ∀ ov iv new, augStore i ov iv new = (do holding [new, ov, iv] (setItem ov iv new); release [new, ov, iv] []; pure .next) := by intros; rfl) : PS X (.AugAssign (.Subscript o i tpos) op e pos) (tAugS to ti te (rIxL K) tip rSetL) := by
  subst hK; exact ps_augS ho hi get_list he hp set_list ha
end
end Pd
namespace Wl
open PySem PySem.Spec PyProof.Rows L2 Evl Pd
section
variable {K : PySem.W.Frag} {XX : XP}
@[simp] def wAugL (a b c : WE) (f : Int → Int → Int) : WS := fun E ρ h => a ρ h fun o h1 => b ρ h1 fun i h2 => ∃ p ds k j m, o = rf p ∧ i = .int k ∧ h2 p = some (.lst ds) ∧ ixN ds.length k = some j ∧ atI ds k = some (.int m) ∧
  c ρ h2 fun y h3 => ∃ n, y = .int n ∧ h3 p = some (.lst ds) ∧ E.nx ρ (up h3 p (.lst (ds.set j (.int (f m n)))))
instance {ta tb tc : TE} {a b c : WE} {f : Int → Int → Int} [A : RE K XX ta a] [B : RE K XX tb b] [C : RE K XX tc c] : RS K XX (tAugS ta tb tc (rIxL K) (ipI f) rSetL) (wAugL a b c f) := ⟨fun {N σ H ρ h E D} S En p k =>
  A.run S En p fun o od H1 h1 t1 S1 r1 p1 => B.run S1 (En.tr t1) p1 fun i id H2 h2 t2 S2 r2 ⟨q, ds, n, j, m, e1, e2, e3, e4, e5, p2⟩ => by
    subst e2
    have t12 := t1.trans t2
    have r1' := r1.tr t2
    obtain ⟨a0, xs0, ea, hq, rs0⟩ := r1'.lv (ds := ds) S2 (by rw [e1]; simp [e3])
    obtain ⟨v, hv, rv⟩ := atI_rl rs0 e5
    refine ⟨a0, xs0, n, v, ea, r2.i, hq, hv, C.run S2 (En.tr t12) p2 fun y d H3 h3 t3 S3 r3 ⟨n', e6, e7, p3⟩ => ?_⟩
    subst e6
    obtain ⟨xs, z, rs⟩ := Rl.lvH S3 e7
    have hp : H3 q = none ∨ h3 q ≠ none := .inr (by rw [e7]; intro z; cases z)
    have t4 : Tr H3 h3 (L2.upd H3 q (.lst (xs.set j (.int (f m n'))))) (up h3 q (.lst (ds.set j (.int (f m n'))))) := Tr.put hp
    have t := t12.trans t3
    refine ⟨m, n', rv.i, r3.i, q, xs, n, j, (r1.tr (t2.trans t3)).r (a := q) (by rw [e1]; exact asR_rf q), r2.i, z, by rw [rs.length]; exact e4, ?_⟩
    exact k.nx _ _ _ _ (t.trans t4) (S3.put hp (.lst (Rls.set (.int _) j rs))) (En.tr (t.trans t4)) p3⟩
end
end Wl
set_option Elab.async false
set_option linter.all false
set_option maxRecDepth 100000
set_option maxHeartbeats 4000000
/-! Sl: xs[a:] = ys. No law, no program. -/
namespace L2
open PySem PySem.Spec PyProof.Rows
section
variable {prog : Program} {w : World} {A : Around} {E : Value → Shared → Prop} {s : Shared}
theorem bounds_run0 {a n : Nat} (hac : a ≤ n) : sliceBounds (some (a : Int)) none none n = ((a : Int), (n : Int), 1) := by
  simp only [sliceBounds, Option.getD_none]
  have h1 : ¬ ((a : Int) < 0) := by omega
  simp only [h1, if_false, show (1 : Int) > 0 by decide, if_true]
  congr 1
  omega
set_option maxRecDepth 100000 in
theorem setItem_slice0 {l b sl : Addr} {items new : Array Value} {n n2 : Nat} {vl : Value} {a : Nat} {Q : Unit → Shared → Prop}
    (e : s.heap.get? l = some { cls := .type "list", data := .seq items n }) (e2 : s.heap.get? b = some { cls := .type "list", data := .seq new n2 }) (hne : l ≠ b)
    (hs : s.heap.IsSliceOf sl vl .none .none) (pl : IsPart vl (some (a : Int))) (hac : a ≤ items.size)
    (hsz : items.size + new.size ≤ sizeLine) (h : Q () { s with heap := s.heap.update l (Obj.mapSeq fun xs => xs.extract 0 a ++ new ++ xs.extract items.size xs.size) }) :
    wpAny (model prog w) A (setItem (.ref l) (.ref sl) (.ref b)) Q E s := by
  have hl : s.heap.IsList l items := PySem.IsL.isList e
  have hb : s.heap.IsList b new := PySem.IsL.isList e2
  obtain ⟨os, hos, hcs, hds⟩ := id hs
  have hTs : s.TypeIs (.ref sl) "slice" := ⟨os, hos, hcs⟩
  have hstep : ¬ ((rawPart none == rawInt 0) = true) := Bool.false_ne_true
  have hsame : Builtin.List.listSameRef (.ref l) (.ref b) = false := by
    unfold Builtin.List.listSameRef
    exact beq_eq_false_iff_ne.mpr hne
  have hmax : (max (a : Int) (items.size : Int)).toNat = items.size := by omega
  have hz' : ((fun xs : Array Value => xs.extract 0 a ++ new ++ xs.extract items.size xs.size) items).size ≤ sizeLine + 1 := by
    simp only [Array.size_append, Array.size_extract]
    omega
  unfold setItem
  try with_reducible refine wpAny_holding ?_
  first | refine wpAny_bind (wpAny_pure ?_) | skip
  refine wpAny_bind (wpAny_sequenceKey hl.typeIs (by decide) ?_)
  refine wpAny_bind (wpAny_callSpecial?_slot (name := Str.ofString "__setitem__") hl.typeIs slot_list_setitem
    (wpAny_call_entry slot_list_setitem hl.typeIs entry_list_setitem ?_ (args_list_setitem _ _ _)))
  show wpAny _ _ (Builtin.List.listSubscript? (.ref sl) >>= _) _ _ s
  refine wpAny_bind ?_
  unfold Builtin.List.listSubscript?
  refine wpAny_bind (wpAny_specialOf hTs slice_no_index ?_)
  simp only [Option.isNone_none, if_true]
  refine wpAny_pure ?_
  show wpAny _ _ (typeOf (.ref sl) >>= _) _ _ s
  refine wpAny_bind (wpAny_typeOf hTs ?_)
  first
    | rw [if_neg (by decide)]
    | refine PySem.W.KFB.if_not (by decide) ?_
  rw [listSliceParts_eq]
  refine wpAny_bind (wpAny_bind (wpAny_field hos hds (x := .none) rfl (wpAny_bind (wpAny_listPart .none ?_))))
  rw [if_neg hstep]
  refine wpAny_bind (wpAny_field hos hds (x := vl) rfl (wpAny_bind (wpAny_listPart pl ?_)))
  refine wpAny_bind (wpAny_field hos hds (x := .none) rfl (wpAny_bind (wpAny_listPart .none (wpAny_pure ?_))))
  first
    | simp only [hsame, Bool.false_eq_true, if_false]
    | refine PySem.W.KFB.if_not hsame ?_
    | (dsimp only
       rw [if_neg (by rw [hsame]; exact Bool.false_ne_true)])
  refine wpAny_bind (m := Builtin.List.listAllItems (.ref b) "must assign iterable to extended slice") ?_
  unfold Builtin.List.listAllItems
  refine wpAny_bind (wpAny_typeOf hb.typeIs ?_)
  first
    | refine PySem.W.KFB.if_so (by decide) ?_
    | rw [if_pos (by decide)]
    | simp only [beq_self_eq_true, Bool.true_or, if_true]
  unfold Builtin.List.listItems
  refine wpAny_bind (wpAny_seqItems e2 rfl (wpAny_pure ?_))
  refine wpAny_bind (wpAny_bind (wpAny_seqItems e rfl (wpAny_pure ?_)))
  refine wpAny_bind (wpAny_of_eq ((sliceIndices_raw (some (a : Int)) none none items.size (by simp)).trans (congrArg (pure : Int × Int × Int → Sem (Int × Int × Int)) (bounds_run0 hac))) ?_)
  show wpAny _ _ (if ((1 : Int) == 1) = true then _ else _) _ _ s
  rw [if_pos (by decide)]
  refine wpAny_bind (wpAny_rule ?_)
  first
    | simp only [notLongL hsz, Bool.false_eq_true, if_false]
    | refine PySem.W.KFB.if_not (notLongL hsz) ?_
  first | refine wpAny_bind (wpAny_pure ?_) | skip
  show wpAny _ _ (updateSeq l (fun xs => xs.extract 0 ((a : Int)).toNat ++ new ++ xs.extract (max (a : Int) (items.size : Int)).toNat xs.size) >>= _) _ _ s
  rw [hmax, Int.toNat_natCast]
  refine wpAny_bind (wpAny_updateSeq (hz := Nat.le_trans (Nat.le_add_right _ _) hsz) (_hz' := hz') e rfl ?_)
  refine wpAny_bind (wpAny_letGo ?_)
  first
    | exact wpAny_bind (wpAny_pure (wpAny_pure ⟨.none, rfl, wpAny_pure h⟩))
    | exact wpAny_pure ⟨.none, rfl, wpAny_pure h⟩
end
section
variable {X : Cx}
theorem set_slice0 {pins : List (Addr × Obj)} {s : Shared} {σ : St} {H : Hp} {l b sl : Addr} {xs ys : List V} {a : Nat} {vl : Value} {Q : Unit → Shared → Prop} (I : Inv X pins σ H s)
    (hH : H l = some (.lst xs)) (hB : H b = some (.lst ys)) (hne : l ≠ b) (hs : s.heap.IsSliceOf sl vl .none .none) (pl : IsPart vl (some (a : Int))) (hac : a ≤ xs.length)
    (hz : xs.length + ys.length ≤ sizeLine) (h : ∀ s', Inv X pins σ (upd H l (.lst (xs.take a ++ ys))) s' → Q () s') :
    wpAny (model X.prog X.w) X.A (setItem (.ref l) (.ref sl) (.ref b)) Q X.xe s := by
  obtain ⟨z, its, n, r, hl, e⟩ := I.lstM hH
  obtain ⟨z2, its2, n2, r2, hl2, e2⟩ := I.lstM hB
  refine setItem_slice0 (a := a) e e2 hne hs pl (by rw [List.size_toArray, ← hl]; exact hac) (by rw [List.size_toArray, List.size_toArray]; omega) (h _ ?_)
  refine I.lset (its' := its.take a ++ its2) (t' := s.toks) hH e ?_ (Vals.append (r.take _) r2) ?_
  · have := splice_eq its its2 a its.toArray.size
    simp only [List.size_toArray, List.drop_length, List.append_nil] at this
    simpa using this
  · rw [List.length_append, List.length_take]
    omega
/-- o[a:] = .., of a list -/
def gSl0 (to tl : TE) : TG := fun v σ H Q => to σ H fun x H1 => tPart tl σ H1 fun o H2 => ∃ (a : Nat) (l : Addr) (xs : List V) (b : Addr) (ys : List V), o = some (a : Int) ∧ x = .ref l ∧ v = .ref b ∧ H2 l = some (.lst xs) ∧ H2 b = some (.lst ys) ∧ l ≠ b ∧ a ≤ xs.length ∧ xs.length + ys.length ≤ sizeLine ∧ Q σ (upd H2 l (.lst (xs.take a ++ ys)))
theorem pg_sl0 {o lo : Expr} {to tl : TE} {pos p2 : Pos} (ho : PE X o to) (hl : PE X lo tl)
    (ha : ∀ v, assign (.Subscript o (.Slice (some lo) none none p2) pos) X.env v = (do
      let ov ← holding [v] (eval o X.env)
      let iv ← holding [v, ov] (eval (.Slice (some lo) none none p2) X.env)
      standAt pos
      holding [v, ov, iv] (setItem ov iv v)
      release [iv, v, ov] []) := by intro _; rfl) : PG X (.Subscript o (.Slice (some lo) none none p2) pos) (gSl0 to tl) := by
  refine ⟨fun pins s σ H v u Q I r h => ?_⟩
  rw [ha]
  refine wpAny_bind (wpAny_holding (thn (ho.run pins s σ H _ I h) fun ov s1 ⟨x, H1, I1, r1, q1⟩ => ?_))
  refine wpAny_bind (wpAny_holding ?_)
  have pl := po_some hl
  refine wpAny_Slice (thn (pl.run pins s1 σ H1 _ I1 q1) fun vl s2 ⟨lo', H2, I2, pl2, a, l, xs, b, ys, e0, e1, e2, hH, hB, hne, hac, hz, q2⟩ => ?_)
  subst e0 e1 e2
  cases r1
  cases r
  rw [evalPart_none]
  refine wpAny_pure ?_
  refine wpAny_pure ?_
  have I4 : Inv X pins σ H2 { s2 with heap := s2.heap.push { cls := .type "slice", data := .fields #[vl, .none, .none] } } := I2.kept (t' := s2.toks) fun b ob q => Heap.get?_push_of_some _ q
  refine wpAny_bind (wpAny_standAt (wpAny_bind (wpAny_holding (set_slice0 I4 hH hB hne (Heap.IsSliceOf.new ..) pl2 hac hz fun s3 I3 => ?_))))
  exact wpAny_release ⟨σ, _, I3, q2⟩
end
end L2
set_option Elab.async false
set_option linter.all false
set_option maxRecDepth 100000
set_option maxHeartbeats 4000000
/-! Wv: xs[a:] = ys; a list taken apart; list(range(a, b)); max of a list; several except clauses. -/
namespace Wl
open PySem PySem.Spec PyProof.Rows L2 Evl Pd
section
variable {K : PySem.W.Frag} {XX : XP} {N : Addr → Prop} {H : Hp} {h : Lh}
@[simp] def wGSl0 (a b : WE) : WG := fun d ρ h P => a ρ h fun x h1 => b ρ h1 fun y h2 => ∃ (n : Nat) (p : Addr) (ds es : List PyData), y = .int (n : Int) ∧ x = rf p ∧ d = .list es ∧ h2 p = some (.lst ds) ∧ n ≤ ds.length ∧ ds.length + es.length ≤ 100000 ∧ P ρ (up h2 p (.lst (ds.take n ++ es)))
instance {ta tb : TE} {a b : WE} [A : RE K XX ta a] [B : RE K XX tb b] : RG K XX (gSl0 ta tb) (wGSl0 a b) := ⟨fun {N v d σ H ρ h P Q} S E r p k =>
  A.run S E p fun o od H1 h1 t1 S1 r1 p1 => B.run S1 (E.tr t1) p1 fun i id H2 h2 t2 S2 r2 ⟨n, q, ds, es, e0, e1, e2, e3, l1, l2, p2⟩ => by
    subst e0 e2
    obtain ⟨xs, z, rs⟩ := Rl.lvH S2 e3
    have r' := r.tr (t1.trans t2)
    cases r' with
    | @lst b ys _ h3 rs2 =>
      obtain ⟨hb, hn, _⟩ := h3
      have ne : q ≠ b := fun z2 => by subst z2; rw [e3] at hn; cases hn
      have hp : H2 q = none ∨ h2 q ≠ none := .inr (by rw [e3]; intro z; cases z)
      have t := t1.trans t2
      have t3 : Tr H2 h2 (L2.upd H2 q (.lst (xs.take n ++ ys))) (up h2 q (.lst (ds.take n ++ es))) := Tr.put hp
      refine ⟨(n : Int), r2.i, n, q, xs, b, ys, rfl, (r1.tr t2).r (a := q) (by rw [e1]; exact asR_rf q), rfl, z, hb, ne, by rw [rs.length]; exact l1, ?_, k _ _ _ _ (t.trans t3) (S2.put hp (.lst (Rls.append (rs.take n) rs2))) (E.tr (t.trans t3)) p2⟩
      rw [rs.length, rs2.length]
      exact sz_of l2⟩
@[simp] def wGLst (n : Nat) (b : WGs) : WG := fun d ρ h P => ∃ ds, lv h d = some ds ∧ ds.length = n ∧ b ds ρ h P
instance {tb : TGs} {b : WGs} {n : Nat} [B : RGs K XX tb b] : RG K XX (gLst K n tb) (wGLst n b) := ⟨fun S E r ⟨ds, e, l, p⟩ k => by
  obtain ⟨a, xs, rfl, t, rs⟩ := r.lv S e
  exact ⟨a, xs, rfl, t, by rw [rs.length]; exact l, B.run S E rs p k⟩⟩
@[simp] def fMaxL (ds : List PyData) (h : Lh) (P : Wv) : Prop := ∃ (d : PyData) (ns : List Int), ds = [d] ∧ Wl.lv h d = some (ns.map PyData.int) ∧ 0 < ns.length ∧ ∀ m, m ∈ ns → (∀ y, y ∈ ns → y ≤ m) → P (.int m) h
instance : RCW K (rMax K) fMaxL := ⟨fun S r ⟨d, ns, e, l, l0, p⟩ k => by
  subst e
  obtain ⟨v, rfl, rv⟩ := r.one
  obtain ⟨a, xs, rfl, t, rr⟩ := rv.lv S l
  cases rr.ofInts
  exact ⟨a, ns, rfl, t, l0, fun m h1 h2 => k.at S (.int _) (p m h1 h2)⟩⟩
@[simp] def wLstRg2 (a b : WE) : WA := fun ρ h P => a ρ h fun x h1 => b ρ h1 fun y h2 => ∃ i j : Int, x = .int i ∧ y = .int j ∧ -16777216 ≤ i ∧ i ≤ 16777216 ∧ -16777216 ≤ j ∧ j ≤ 16777216 ∧ j - i ≤ 16777216 ∧ P (rgD i j) h2
theorem rgRls (i j : Int) : Rls K N H h (rgV i j) (rgD i j) := by
  unfold rgV rgD
  generalize List.range (j - i).toNat = l
  induction l with
  | nil => exact .nil
  | cons a l ih => exact .cons (.int _) ih
instance {ta tb : TE} {a b : WE} [A : RE K XX ta a] [B : RE K XX tb b] : RN K XX (tLstRg (tRg2 ta tb)) (wLstRg2 a b) := ⟨fun {N σ H ρ h P Q} S E p k =>
  A.run S E p fun v d H1 h1 t1 S1 r1 p1 => B.run S1 (E.tr t1) p1 fun u e H2 h2 t2 S2 r2 ⟨i, j, e1, e2, b1, b2, b3, b4, b5, p2⟩ => by
    subst e1 e2
    exact ⟨i, j, (r1.tr t2).i, r2.i, ⟨by omega, by omega, by omega, by omega, by omega⟩, fun q hq => (k.tr (t1.trans t2)).new S2 hq (rgRls i j) p2⟩⟩
theorem k_maxL {X : Cx} {K : PySem.W.Frag} (hK : X.K = K) (hc : X.calm = true) : CallR X (.builtin "max") (rMax K) := by subst hK; exact cr_max hc
/-! ### several except clauses -/
def tTryM (K : PySem.W.Frag) (tb : WX → TS) (l : List (Value × (Addr → Value → Option Addr → TS))) (Wout : WX) : TS := fun D σ H => tb (wMany K Wout D l) D σ H
theorem k_tryM {X : Cx} {K : PySem.W.Frag} (hK : X.K = K) {body : List Stmt} {h₀ : ExceptHandler} {hds : List ExceptHandler} {l : List (Value × (Addr → Value → Option Addr → TS))} {pos : Pos} {tb : WX → TS} {Wout : WX} (hs : X.stack = X.env :: X.outer) (hf : X.env.frame = some X.env.locals) (tk : Takes X Wout)
    (hb : ∀ (W : WX) (pn : List (Addr × Obj)) (xe : Value → Shared → Prop), Takes (X.tr pn xe) W → PassesOwn (model X.prog X.w) X.A X.env xe → PSs (X.tr pn xe) body (tb W))
    (hh : HdsOk X (h₀ :: hds) l) : PS X (.Try body (h₀ :: hds) [] [] pos) (tTryM K tb l Wout) := by subst hK; exact ps_try_many hs hf tk hb hh
abbrev WHs := List (Value × WS)
class RH (K : PySem.W.Frag) (XX : XP) (l : List (Value × (Addr → Value → Option Addr → TS))) (w : outParam WHs) : Prop where
  run : Paired (fun (p : Value × (Addr → Value → Option Addr → TS)) (q : Value × WS) => p.1 = q.1 ∧ ∀ a cls d, RS K XX (p.2 a cls d) q.2) l w
instance : RH K XX [] [] := ⟨.nil⟩
instance {c : Value} {ts : Addr → Value → Option Addr → TS} {ws : WS} {l : List (Value × (Addr → Value → Option Addr → TS))} {w : WHs} [A : ∀ a cls d, RS K XX (ts a cls d) ws] [B : RH K XX l w] : RH K XX ((c, ts) :: l) ((c, ws) :: w) := ⟨.cons ⟨rfl, fun a cls d => A a cls d⟩ B.run⟩
/-- what the clauses do with an exception -/
def xMany (K : PySem.W.Frag) (E : WEnds) : WHs → Ev' → XB
  | [] => fun _ _ _ _ => False
  | (c, ws) :: r => fun ρ C fs h => ∃ b, PySem.W.exmOne K (.ref C) c = some b ∧ wCond b (ws E ρ h) (xMany K E r ρ C fs h)
@[simp] def wTryM (wb : (Ev' → XB) → WS) (w : WHs) (K : PySem.W.Frag) : WS := fun E ρ h => wb (xMany K E w) E ρ h
theorem rs_tryM {tb : WX → TS} {l : List (Value × (Addr → Value → Option Addr → TS))} {wb : (Ev' → XB) → WS} {w : WHs} (B : ∀ (W : WX) (X : Ev' → XB), RS K ⟨L2.WE W, X⟩ (tb W) (wb X)) [U : RH K XX l w] :
    RS K XX (tTryM K tb l (fun _ _ _ _ => False)) (wTryM wb w K) := ⟨fun {N σ H ρ h E D} S e p k => by
  refine (B (wMany K (fun _ _ _ _ => False) D l) (xMany K E w)).run ⟨S.toSim, fun σ' ρ' C d fs H' h' t S' e' xr cond => ?_⟩ e p
    ⟨fun σ' ρ' H' h' t S' => k.nx σ' ρ' H' h' t (S.to t S'.toSim), fun v d H' h' t S' => k.rt v d H' h' t (S.to t S'.toSim), fun σ' ρ' H' h' t S' => k.bk σ' ρ' H' h' t (S.to t S'.toSim), fun σ' ρ' H' h' t S' => k.ct σ' ρ' H' h' t (S.to t S'.toSim)⟩
  have go : ∀ {l : List (Value × (Addr → Value → Option Addr → TS))} {w : WHs}, Paired (fun (p : Value × (Addr → Value → Option Addr → TS)) (q : Value × WS) => p.1 = q.1 ∧ ∀ a cls d, RS K XX (p.2 a cls d) q.2) l w → xMany K E w ρ' C fs h' → wMany K (fun _ _ _ _ => False) D l (.ref C) d σ' H' := by
    intro l w q
    induction q with
    | nil => intro c; exact c.elim
    | @cons p q l w a _ ih =>
      obtain ⟨c, ts⟩ := p
      obtain ⟨c', ws⟩ := q
      obtain ⟨rfl, a⟩ := a
      rintro ⟨b, eb, cond⟩
      exact ⟨b, eb, fun hb a2 ha => (a a2 (.ref C) d).run (S.to t S') e' (cond.1 hb) (k.tr t), fun hb => ih (cond.2 hb)⟩
  exact go U.run cond⟩
end
end Wl
set_option Elab.async false
set_option linter.all false
set_option maxRecDepth 100000
set_option maxHeartbeats 4000000
/-! Wyi: in of a list of data; a list taken apart. -/
namespace Wl
open PySem PySem.Spec PyProof.Rows L2 Evl Pd
section
variable {X : Cx} {o i : Expr} {td ty : TE} {K : PySem.W.Frag}
theorem k_inD (hK : X.K = K) {k : Nat} (hr : Room k X.A) : OpR X (compareOp .In) (rInD K) := by subst hK; exact op_inD (by have := hr.un; omega)
theorem k_notInD (hK : X.K = K) {k : Nat} (hr : Room k X.A) : OpR X (compareOp .NotIn) (rNotInD K) := by subst hK; exact op_notInD (by have := hr.un; omega)
end
section
variable {K : PySem.W.Frag} {XX : XP} {N : Addr → Prop} {H : Hp} {h : Lh}
@[simp] def fInD (neg : Bool) (d e : PyData) (h : Lh) (P : Wv) : Prop := ∃ ds, lv h e = some ds ∧ clean (snap h d) = true ∧ clean (.list ds) = true ∧ SeqAt.shaped (snap h d) = true ∧ SeqAt.shaped (.list ds) = true ∧ P (.bool (if neg then !(ds.any fun z => PyData.eqv z (snap h d)) else ds.any fun z => PyData.eqv z (snap h d))) h
theorem snap_lv {d : PyData} {ds : List PyData} (e : lv h d = some ds) : snap h d = .list ds := by unfold snap; rw [e]
instance : R2W K (rInD K) (fInD false) := ⟨fun S a c ⟨ds, e, p1, p2, s1, s2, p⟩ k => by
  have := c.snap S (by rw [snap_lv e]; exact p2)
  rw [snap_lv e] at this
  exact ⟨_, ds, a.snap S p1, this, s1, s2, k.at S (.bl _) p⟩⟩
instance : R2W K (rNotInD K) (fInD true) := ⟨fun S a c ⟨ds, e, p1, p2, s1, s2, p⟩ k => by
  have := c.snap S (by rw [snap_lv e]; exact p2)
  rw [snap_lv e] at this
  exact ⟨_, ds, a.snap S p1, this, s1, s2, k.at S (.bl _) p⟩⟩
theorem k_pg_lst {X : Cx} {K : PySem.W.Frag} (hK : X.K = K) {pos : Pos} {es : List Expr} {k : Nat} {t : TGs} {n : Nat} (hc : X.calm = true) (h : PGs X es t)
    (hn : (assignEach es X.env).length = n := by rfl) (hst : (assignEach es X.env).findIdx? (·.1) = none := by rfl) : PG X (.Tuple es k pos) (gLst K n t) := by subst hK; exact pg_lst hc h hn hst
end
section
variable {K : PySem.W.Frag}
@[simp] def fMin2 (ds : List PyData) (h : Lh) (P : Wv) : Prop := ∃ i j, ds = [.int i, .int j] ∧ P (.int (if j < i then j else i)) h
instance : RCW K (fun xs H Q => ∃ i j, xs = [.int i, .int j] ∧ Q (.int (if j < i then j else i)) H) fMin2 := ⟨fun S r ⟨i, j, e, p⟩ k => by
  subst e; obtain ⟨v, w, rfl, iv, iw⟩ := r.two; rw [iv.i, iw.i]; exact ⟨i, j, rfl, k.at S (.int _) p⟩⟩
end
end Wl
set_option Elab.async false
set_option linter.all false
set_option maxRecDepth 100000
set_option maxHeartbeats 4000000
/-! Xt: bare tuples of ints by display and +; equality that sees through them; reversed of a list; is True; t[::2]. -/
namespace HT
open PySem PyProof.Rows
open PySem.SeqAt
open PySem.AutoSeq1 (wpAny_loadPart')
open PySem.MeetsSeq PySem.MeetsSeq2 PySem.MeetsSeq3 PySem.W
section
variable {prog : Program} {w : World} {A : Around} {E : Value → Shared → Prop} {s : Shared}
theorem sliceApplied_two {sl : Addr} {vs : Value} {n : Nat} {Q : Int × Int × Nat → Shared → Prop} (hs : s.heap.IsSliceOf sl .none .none vs) (ps : IsPart vs (some 2))
    (h : Q (0, 2, Builtin.Slice.slicePlaces 0 (n : Int) 2) s) : wpAny (model prog w) A (Builtin.Slice.sliceApplied (.ref sl) (pure (n : Int))) Q E s := by
  obtain ⟨os, hos, hcs, hds⟩ := id hs
  unfold Builtin.Slice.sliceApplied Builtin.Slice.sliceFields
  refine wpAny_bind (wpAny_bind (wpAny_field hos hds (x := .none) rfl (wpAny_bind (wpAny_field hos hds (x := .none) rfl (wpAny_bind (wpAny_field hos hds (x := vs) rfl (wpAny_pure ?_)))))))
  refine wpAny_bind (slicePart_ ps ?_)
  show wpAny _ _ (if ((2 : Int) == 0) = true then _ else _) _ _ s
  rw [if_neg (by decide)]
  refine wpAny_bind (slicePart_ .none (wpAny_bind (slicePart_ .none (wpAny_bind (wpAny_pure ?_)))))
  exact wpAny_pure h
theorem getItem_tuple_two {t sl : Addr} {a b c d : Value} {vs : Value} {Q : Value → Shared → Prop} (ht : IsTup s.heap t #[a, b, c, d]) (hs : s.heap.IsSliceOf sl .none .none vs) (ps : IsPart vs (some 2))
    (h : Q (.ref s.heap.objs.size) { s with heap := s.heap.push { cls := .type "tuple", data := .seq #[a, c] } }) : wpAny (model prog w) A (getItem (.ref t) (.ref sl)) Q E s := by
  have htake : sizeOk (.seq #[a, c]) := by
    show (2 : Nat) ≤ sizeLine
    decide
  obtain ⟨os, hos, hcs, hds⟩ := id hs
  have hTs : s.TypeIs (.ref sl) "slice" := ⟨os, hos, hcs⟩
  unfold getItem
  try with_reducible refine wpAny_holding ?_
  first | refine wpAny_bind (wpAny_pure ?_) | skip
  refine wpAny_bind (wpAny_sequenceKey ht.typeIs (by decide) ?_)
  refine wpAny_bind (wpAny_callSpecial?_slot (name := Str.ofString "__getitem__") ht.typeIs PyProof.Rows.slot_tuple_getitem
    (wpAny_call_entry PyProof.Rows.slot_tuple_getitem ht.typeIs entry_tuple_getitem ?_ (args_tuple_getitem _ _)))
  show wpAny _ _ (Builtin.Tuple.tupleItemsOf (.ref t) >>= _) _ _ s
  refine wpAny_bind (tupleItemsOf_ ht ?_)
  refine wpAny_bind (wpAny_typeOf hTs ?_)
  rw [if_pos (by decide)]
  refine wpAny_bind (sliceApplied_two (n := 4) hs ps ?_)
  have e4 : Builtin.Slice.slicePlaces 0 ((4 : Nat) : Int) 2 = 2 := by decide
  rw [e4]
  have hno : ¬ ((((0 : Int) == 0) && ((2 : Int) == 1) && ((2 : Nat) == (#[a, b, c, d] : Array Value).size)) = true) := by
    intro q
    rw [Bool.and_eq_true, Bool.and_eq_true] at q
    exact absurd (eq_of_beq q.1.2) (by decide)
  show wpAny _ _ (if ((((0 : Int) == 0) && ((2 : Int) == 1) && ((2 : Nat) == (#[a, b, c, d] : Array Value).size)) = true) then _ else _) _ _ s
  rw [if_neg hno]
  have pk : ((List.range 2).filterMap fun (m : Nat) => (#[a, b, c, d] : Array Value)[((0 : Int) + (m : Int) * 2).toNat]?).toArray = #[a, c] := rfl
  rw [pk]
  first
    | exact wpAny_bind (m := Builtin.Tuple.tupleExact _) (wpAny_newObj_type (wpAny_pure ⟨_, rfl, wpAny_pure h⟩) htake)
    | exact wpAny_bind (m := Builtin.Tuple.tupleExact _) (wpAny_newObj_type (wpAny_bind (wpAny_pure (wpAny_pure ⟨_, rfl, wpAny_pure h⟩))) htake)
end
end HT
namespace Pd
open PySem PySem.Spec PyProof.Rows L2 Evl
section
def tSl2T (K : PySem.W.Frag) (te : TE) : TE := fun σ H Q => te σ H fun x H1 => ∃ p a b c d, x = .ref p ∧ SqT K H1 p [a, b, c, d] ∧ ∀ p, H1 p = none → Q (.ref p) (upd H1 p (.tup [a, c]))
theorem pe_sl2T {X : Cx} {e : Expr} {te : TE} {k : Nat} {p1 p3 pos : Pos} (he : PE X e te) : PE X (.Subscript e (.Slice none none (some (.Constant (.int 2) k p1)) p3) pos) (tSl2T X.K te) := by
  refine ⟨fun pins s σ H Q I h => ?_⟩
  refine Subscript_ (thn (he.run pins s σ H _ I h) fun v s1 ⟨x, H1, I1, r1, q1⟩ => ?_)
  obtain ⟨p, a, b, c, d, ex, hx, q⟩ := q1
  subst ex
  cases r1
  have hst : PO X (some (.Constant (.int 2) k p1)) (tPart (tC (.int 2))) := po_some pe_int
  refine wpAny_Slice (thn (po_none.run pins s1 σ H1 (fun o H2 => o = none ∧ H2 = H1) I1 ⟨rfl, rfl⟩) fun vl s2 ⟨l, H2, I2, pl, el, e2⟩ => ?_)
  subst el e2
  refine thn (po_none.run pins s2 σ H2 (fun o H3 => o = none ∧ H3 = H2) I2 ⟨rfl, rfl⟩) fun vu s3 ⟨u, H3, I3, pu, eu, e3⟩ => ?_
  subst eu e3
  refine thn (hst.run pins s3 σ H3 (fun o H4 => o = some 2 ∧ H4 = H3) I3 ⟨2, rfl, rfl, rfl⟩) fun vs s4 ⟨o, H4, I4, ps, eo, e4⟩ => ?_
  subst eo e4
  have I5 : Inv X pins σ H4 { s4 with heap := s4.heap.push { cls := .type "slice", data := .fields #[vl, vu, vs] } } := I4.kept (t' := s4.toks) fun b ob q => Heap.get?_push_of_some _ q
  obtain ⟨its, r, ht, hz⟩ := I5.tuple hx
  cases r with | cons ra r => cases r with | cons rb r => cases r with | cons rc r => cases r with | cons rd r =>
  cases r
  cases pl
  cases pu
  show wpAny (model X.prog X.w) X.A (subscriptTail e (.Slice none none (some (.Constant (.int 2) k p1)) p3) (.ref p) (.ref s4.heap.objs.size)) (EP X pins σ Q) X.xe { s4 with heap := s4.heap.push { cls := .type "slice", data := .fields #[.none, .none, vs] } }
  refine tail_any (ops := [.ref p, .ref s4.heap.objs.size]) ht.typeIs (PyProof.Rows.slot_tuple_getitem.lookup) ?_ (by with_unfolding_all rfl)
  refine HT.getItem_tuple_two ht (Heap.IsSliceOf.new _ .none .none vs) ps ?_
  refine ⟨.ref _, _, I5.laid (t' := s4.toks) (o := .tup [a, c]) (fun b ob q => Heap.get?_push_of_some _ q) (Nat.le_refl _) ?_, rfl, q _ (I5.hok.fresh (Nat.le_refl _))⟩
  exact ⟨by show (2 : Nat) ≤ sizeLine; decide, _, .cons ra (.cons rc .nil), IsTup.new _ _⟩
theorem k_sl2T {X : Cx} {K : PySem.W.Frag} (hK : X.K = K) {e : Expr} {te : TE} {k : Nat} {p1 p3 pos : Pos} (he : PE X e te) : PE X (.Subscript e (.Slice none none (some (.Constant (.int 2) k p1)) p3) pos) (tSl2T K te) := by subst hK; exact pe_sl2T he
variable {X : Cx} {K : PySem.W.Frag}
theorem k_pi_reversed (hK : X.K = K) {tg e : Expr} {ta : TA} {p pos : Pos} (hg : Gl X "reversed") (hm : X.mg "reversed" = none) (ha : PA X [e] ta) (hs : starEach [e] X.env = [(false, eval e X.env)] := by rfl) :
    PI X tg (.Call (.Name "reversed" p) [e] [] pos) (iRev K ta) := by subst hK; exact pi_reversed hg hm ha hs
end
end Pd
namespace Wl
open PySem PySem.Spec PyProof.Rows L2 Evl Pd
section
variable {K : PySem.W.Frag} {XX : XP}
@[simp] def wTupB (a : WA) : WE := fun ρ h P => a ρ h fun es h1 => ∃ ns : List Int, es = ns.map PyData.int ∧ ns.length ≤ 100000 ∧ P (bt ns) h1
instance {t : TA} {a : WA} [A : RA K XX t a] : RE K XX (tTupF t) (wTupB a) := ⟨fun {N σ H ρ h P Q} S E p k => A.run S E p fun vs es H1 h1 t1 S1 r1 ⟨ns, e, l, p1⟩ => by
  subst e
  cases r1.ofIntsS
  exact ⟨sz_of (by rw [List.length_map]; exact l), fun a o ha ho => (k.tr t1) _ _ _ h1 (Tr.new ha) (S1.new ha) (.btp ns o upd_same ho (S1.hn ha) (S1.nn ha)) p1⟩⟩
@[simp] def fCatB (d e : PyData) (h : Lh) (P : Wv) : Prop := ∃ ns ms : List Int, d = bt ns ∧ e = bt ms ∧ ns.length + ms.length ≤ 100000 ∧ P (bt (ns ++ ms)) h
instance : R2W K (rCatF K) fCatB := ⟨fun {XX N H h x y d e P Q} S a c ⟨ns, ms, e1, e2, z, p⟩ k => by
  subst e1; subst e2
  obtain ⟨q, xs, rfl, t1, r1⟩ := a.tv (show tv (bt ns) = some (ns.map .int) from rfl)
  obtain ⟨q', xs', rfl, t2, r2⟩ := c.tv (show tv (bt ms) = some (ms.map .int) from rfl)
  cases r1.ofIntsS
  cases r2.ofIntsS
  refine ⟨q, q', _, _, rfl, rfl, t1, t2, sz_of (by simpa using z), fun w => ?_, fun _ w => ?_, fun _ _ r o hr ho => ?_⟩
  · have : ns = [] := by simpa using w
    subst this; exact k.at S c p
  · have : ms = [] := by simpa using w
    subst this; rw [List.append_nil] at p; exact k.at S a p
  · have := k _ _ _ h (Tr.new hr) (S.new hr) (.btp (ns ++ ms) o (by rw [upd_same, List.map_append]) ho (S.hn hr) (S.nn hr)) p
    rw [← List.map_append]
    simpa using this⟩
@[simp] def wSl2T (a : WE) : WE := fun ρ h P => a ρ h fun d h1 => ∃ x y z u, tv d = some [x, y, z, u] ∧ P (.tuple [x, z]) h1
instance {te : TE} {a : WE} [A : RE K XX te a] : RE K XX (tSl2T K te) (wSl2T a) := ⟨fun {N σ H ρ h P Q} S E p k => A.run S E p fun v d H1 h1 t1 S1 r1 ⟨x, y, z, u, e, p1⟩ => by
  obtain ⟨b, xs, rfl, q1, q2⟩ := (r1.tvt e).t
  cases q2 with | cons ra r => cases r with | cons rb r => cases r with | cons rc r => cases r with | cons rd r =>
  cases r
  exact ⟨b, _, _, _, _, rfl, q1.sq, fun p hp => (k.tr t1).tup S1 hp (.cons ra (.cons rc .nil)) p1⟩⟩
@[simp] def wIRev (a : WA) : WI := fun ρ h P => a ρ h fun es h1 => ∃ d ds, es = [d] ∧ lv h1 d = some ds ∧ P ds.reverse (fun h3 => lv h3 d = some ds) h1
theorem walkLR {a : Addr} {n : Nat} : Walk (Itv K a n) n (fun H => ∃ xs, SqL K H a xs ∧ xs.length = n) (fun i H x H' => i < n ∧ H' = H ∧ ∀ xs, SqL K H a xs → xs[n - 1 - i]? = some x) :=
  ⟨fun i H hi ⟨xs, s, l⟩ => ⟨hi, xs, xs[n - 1 - i]'(by omega), s, by simp [show n - 1 - i < xs.length by omega]⟩, fun H _ => Nat.le_refl _, fun i H x H' hi _ y => ⟨hi, y⟩⟩
instance {ta : TA} {a : WA} [A : RA K XX ta a] : RI K XX (iRev K ta) (wIRev a) := ⟨fun {N σ H ρ h P R} S E p k => A.run S E p fun vs es H1 h1 t1 S1 r1 ⟨d, ds, e0, e, p1⟩ => by
  subst e0
  obtain ⟨v, rfl, rv⟩ := r1.one
  obtain ⟨q, xs, rfl, t, rs⟩ := rv.lv S1 e
  have at3 : ∀ (N' : Addr → Prop) (H3 : Hp) (h3 : Lh), (∀ a, N' a → N a ∨ H1 a = none) → Tr H1 h1 H3 h3 → Sx K XX N' H3 h3 → lv h3 d = some ds → ∃ ys, SqL K H3 q ys ∧ Rls K N' H3 h3 ys ds := fun N' H3 h3 hN t3 S3 e3 => by
    obtain ⟨q', ys, e', z, r3⟩ := ((rv.hid hN).tr t3).lv S3 e3
    cases e'
    exact ⟨ys, z, r3⟩
  refine ⟨q, xs, rfl, t, k _ H1 h1 ds.reverse _ (fun H => ∃ xs, SqL K H q xs ∧ xs.length = ds.length) (fun i H x H' => i < ds.length ∧ H' = H ∧ ∀ xs, SqL K H q xs → xs[ds.length - 1 - i]? = some x) t1 S1 p1 (by rw [List.length_reverse, rs.length]; exact walkLR) (fun N' H3 h3 hN t3 S3 kp => ?_) fun N' i H3 h3 x H4 hN t3 S3 kp yy => ?_⟩
  · obtain ⟨ys, z, r3⟩ := at3 N' H3 h3 hN t3 S3 kp
    exact ⟨ys, z, r3.length⟩
  · obtain ⟨ys, z, r3⟩ := at3 N' H3 h3 hN t3 S3 kp
    obtain ⟨hi, rfl, hx⟩ := yy
    obtain ⟨d', hd, r⟩ := r3.get (hx ys z)
    refine ⟨d', ?_, Tr.refl _ _, Ex.refl _, S3, r⟩
    rw [List.getElem?_reverse hi]; exact hd⟩
@[simp] def fIsB (neg : Bool) (d e : PyData) (h : Lh) (P : Wv) : Prop := ∃ a b, d = .bool a ∧ e = .bool b ∧ P (.bool (if neg then !decide (a = b) else decide (a = b))) h
instance : R2W K rIsB (fIsB false) := ⟨fun S a c ⟨x, y, e1, e2, p⟩ k => by subst e1; subst e2; exact ⟨x, y, a.b, c.b, k.at S (.bl _) p⟩⟩
instance : R2W K rNotB (fIsB true) := ⟨fun S a c ⟨x, y, e1, e2, p⟩ k => by subst e1; subst e2; exact ⟨x, y, a.b, c.b, k.at S (.bl _) p⟩⟩
mutual
/-- bare tuples as tuples -/
def ub : PyData → PyData
  | .tuple ds => .tuple (ubs ds)
  | .list ds => .list (ubs ds)
  | .dict [(.bool true, .tuple ds)] => .tuple ds
  | d => d
def ubs : List PyData → List PyData
  | [] => []
  | d :: ds => ub d :: ubs ds
end
mutual
theorem _root_.Wl.Rl.ubd {N : Addr → Prop} {H : Hp} {h : Lh} : ∀ {d : PyData} {v : V}, clean (ub d) = true → Rl K N H h v d → Dp K H v (ub d)
  | .none, _, _, r => by cases r; exact .non
  | .bool _, _, _, r => by cases r; exact .bl _
  | .int _, _, _, r => by cases r; exact .int _
  | .str _, _, _, r => by cases r; exact .str _
  | .list ds, _, s, r => by cases r with | lst a b => exact .lst a.sq (Rls.ubd s b)
  | .tuple ds, _, s, r => by cases r with | tup a b => exact .tup a.sq (Rls.ubd s b)
  | .dict kv, v, s, r => by
    cases r with
    | rf => cases s
    | scr ns c => cases s
    | btp ns o a b c d =>
      have := (Rl.tvt (.btp ns o a b c d : Rl K N H h _ (bt ns)) rfl)
      exact this.dp s
theorem _root_.Wl.Rls.ubd {N : Addr → Prop} {H : Hp} {h : Lh} : ∀ {ds : List PyData} {vs : List V}, cleans (ubs ds) = true → Rls K N H h vs ds → DpAll K H vs (ubs ds)
  | [], _, _, r => by cases r; exact .nil
  | d :: ds, _, s, r => by
    cases r with
    | cons a b =>
      have s2 : (clean (ub d) && cleans (ubs ds)) = true := s
      rw [Bool.and_eq_true] at s2
      exact .cons (Rl.ubd s2.1 a) (Rls.ubd s2.2 b)
end
def rEqDB (K : PySem.W.Frag) : R2 := rEqD K
def rNotInDB (K : PySem.W.Frag) : R2 := rNotInD K
theorem k_eqDB {X : Cx} {K : PySem.W.Frag} (hK : X.K = K) (hu : X.A.units + 64 < cLine) : OpR X (compareOp .Eq) (rEqDB K) := k_eqD hK hu
theorem k_notInDB {X : Cx} {K : PySem.W.Frag} (hK : X.K = K) {k : Nat} (hr : Room k X.A) : OpR X (compareOp .NotIn) (rNotInDB K) := k_notInD hK hr
theorem Rl.snapB {N : Addr → Prop} {H : Hp} {h : Lh} {x : V} {d : PyData} (S : Sx K XX N H h) (r : Rl K N H h x d) (p : clean (ub (Wl.snap h d)) = true) : Dp K H x (ub (Wl.snap h d)) := by
  unfold Wl.snap at p ⊢
  cases e : Wl.lv h d with
  | none => rw [e] at p; exact r.ubd p
  | some ds =>
    obtain ⟨a, xs, rfl, q, rs⟩ := r.lv S e
    rw [e] at p
    exact .lst q (rs.ubd p)
@[simp] def fEqDB (d e : PyData) (h : Lh) (P : Wv) : Prop := clean (ub (snap h d)) = true ∧ clean (ub (snap h e)) = true ∧ SeqAt.shaped (ub (snap h d)) = true ∧ SeqAt.shaped (ub (snap h e)) = true ∧ P (.bool (PyData.eqv (ub (snap h d)) (ub (snap h e)))) h
instance : R2W K (rEqDB K) fEqDB := ⟨fun S a c ⟨p1, p2, s1, s2, p⟩ k => ⟨_, _, a.snapB S p1, c.snapB S p2, s1, s2, k.at S (.bl _) p⟩⟩
@[simp] def fNotInDB (d e : PyData) (h : Lh) (P : Wv) : Prop := ∃ ds, lv h e = some ds ∧ clean (ub (snap h d)) = true ∧ clean (.list (ubs ds)) = true ∧ SeqAt.shaped (ub (snap h d)) = true ∧ SeqAt.shaped (.list (ubs ds)) = true ∧ P (.bool (!((ubs ds).any fun z => PyData.eqv z (ub (snap h d))))) h
instance : R2W K (rNotInDB K) fNotInDB := ⟨fun {XX N H h x y d e P Q} S a c ⟨ds, e, p1, p2, s1, s2, p⟩ k => by
  have := c.snapB S (show clean (ub (snap h _)) = true by rw [snap_lv e]; exact p2)
  rw [snap_lv e] at this
  exact ⟨_, ubs ds, a.snapB S p1, this, s1, s2, k.at S (.bl _) p⟩⟩
/-- x += n -/
@[simp] def wAug (i : Nat) (a : WE) (f : Int → Int → Int) : WS := fun E ρ h => ∃ m, ρ[i]? = some (some (.int m)) ∧ a ρ h fun y h1 => ∃ n, y = .int n ∧ E.nx (ρ.set i (some (.int (f m n)))) h1
instance {i : Nat} {ta : TE} {a : WE} {f : Int → Int → Int} [A : RE K XX ta a] : RS K XX (tAug i ta (ipI f)) (wAug i a f) := ⟨fun S E ⟨m, e, p⟩ k => by
  obtain ⟨v, hv, r⟩ := E.2 i _ e
  have ev := r.i
  subst ev
  exact ⟨_, hv, A.run S E p fun y d H1 h1 t1 S1 r1 ⟨n, e1, p1⟩ => by
    subst e1
    rw [r1.i]
    exact ⟨m, n, rfl, rfl, k.nx _ _ _ _ t1 S1 ((E.tr t1).set i (.int (f m n))) p1⟩⟩⟩
end
end Wl
set_option Elab.async false
set_option linter.all false
set_option maxRecDepth 100000
set_option maxHeartbeats 4000000
namespace K37
open PySem PySem.Spec PyProof.Rows L2 Evl Pd
def topS (i : Nat) : Stmt := PySem.Challenge.pw_gleanworld_k37_whole_builders_over_plain.main.body.getD i (.Pass ⟨0, 0, 0, 0⟩)
abbrev st_is_integer : Stmt := topS 6
theorem sc_is_integer : FnScope ["value"] ["value"] (defScope st_is_integer) := ⟨rfl, rfl, rfl, by decide +kernel, rfl, by decide +kernel, by decide +kernel⟩
abbrev st_is_count : Stmt := topS 7
theorem sc_is_count : FnScope ["value"] ["value"] (defScope st_is_count) := ⟨rfl, rfl, rfl, by decide +kernel, rfl, by decide +kernel, by decide +kernel⟩
abbrev st_is_part : Stmt := topS 12
theorem sc_is_part : FnScope ["kind", "value", "roots", "registers"] ["kind", "value", "roots", "registers"] (defScope st_is_part) := ⟨rfl, rfl, rfl, by decide +kernel, rfl, by decide +kernel, by decide +kernel⟩
abbrev st_is_operation : Stmt := topS 13
theorem sc_is_operation : FnScope ["value", "roots", "registers", "form", "kind", "part"] ["value", "roots", "registers"] (defScope st_is_operation) := ⟨rfl, rfl, rfl, by decide +kernel, rfl, by decide +kernel, by decide +kernel⟩
abbrev st_Plain_init : Stmt := inClass (topS 28) 0
theorem sc_Plain_init : FnScope ["self", "cells", "slots", "roots", "registers", "threads", "_"] ["self", "cells", "slots", "roots", "registers", "threads"] (defScope st_Plain_init) := ⟨rfl, rfl, rfl, by decide +kernel, rfl, by decide +kernel, by decide +kernel⟩
abbrev st_Plain_held : Stmt := inClass (topS 28) 3
theorem sc_Plain_held : FnScope ["self", "found", "registers"] ["self"] (defScope st_Plain_held) := ⟨rfl, rfl, rfl, by decide +kernel, rfl, by decide +kernel, by decide +kernel⟩
abbrev st_Plain_met : Stmt := inClass (topS 28) 4
theorem sc_Plain_met : FnScope ["self", "found", "known", "waiting", "value"] ["self"] (defScope st_Plain_met) := ⟨rfl, rfl, rfl, by decide +kernel, rfl, by decide +kernel, by decide +kernel⟩
abbrev st_Plain_reachable : Stmt := inClass (topS 28) 5
theorem sc_Plain_reachable : FnScope ["self"] ["self"] (defScope st_Plain_reachable) := ⟨rfl, rfl, rfl, by decide +kernel, rfl, by decide +kernel, by decide +kernel⟩
abbrev st_Plain_used : Stmt := inClass (topS 28) 6
theorem sc_Plain_used : FnScope ["self", "number"] ["self"] (defScope st_Plain_used) := ⟨rfl, rfl, rfl, by decide +kernel, rfl, by decide +kernel, by decide +kernel⟩
abbrev st_Plain_fits : Stmt := inClass (topS 28) 7
theorem sc_Plain_fits : FnScope ["self", "size"] ["self", "size"] (defScope st_Plain_fits) := ⟨rfl, rfl, rfl, by decide +kernel, rfl, by decide +kernel, by decide +kernel⟩
abbrev st_Plain_picture : Stmt := inClass (topS 28) 11
theorem sc_Plain_picture : FnScope ["self", "met", "names", "place", "number", "registers"] ["self"] (defScope st_Plain_picture) := ⟨rfl, rfl, rfl, by decide +kernel, rfl, by decide +kernel, by decide +kernel⟩
abbrev st_Plain_named : Stmt := inClass (topS 28) 12
theorem sc_Plain_named : FnScope ["self", "values", "names", "value"] ["self", "values", "names"] (defScope st_Plain_named) := ⟨rfl, rfl, rfl, by decide +kernel, rfl, by decide +kernel, by decide +kernel⟩
abbrev st_Plain_forget : Stmt := inClass (topS 28) 13
theorem sc_Plain_forget : FnScope ["self", "kept", "number"] ["self"] (defScope st_Plain_forget) := ⟨rfl, rfl, rfl, by decide +kernel, rfl, by decide +kernel, by decide +kernel⟩
abbrev st_Plain_put : Stmt := inClass (topS 28) 14
theorem sc_Plain_put : FnScope ["self", "registers", "place", "size"] ["self", "registers", "place", "size"] (defScope st_Plain_put) := ⟨rfl, rfl, rfl, by decide +kernel, rfl, by decide +kernel, by decide +kernel⟩
abbrev st_Plain_moved : Stmt := inClass (topS 28) 15
theorem sc_Plain_moved : FnScope ["self", "registers", "operation", "root", "source", "target", "one", "other"] ["self", "registers", "operation"] (defScope st_Plain_moved) := ⟨rfl, rfl, rfl, by decide +kernel, rfl, by decide +kernel, by decide +kernel⟩
abbrev st_Plain_touched : Stmt := inClass (topS 28) 16
theorem sc_Plain_touched : FnScope ["self", "registers", "operation", "cells", "index", "number", "target", "source"] ["self", "registers", "operation", "cells", "index"] (defScope st_Plain_touched) := ⟨rfl, rfl, rfl, by decide +kernel, rfl, by decide +kernel, by decide +kernel⟩
abbrev st_Plain_on_object : Stmt := inClass (topS 28) 17
theorem sc_Plain_on_object : FnScope ["self", "registers", "operation", "place", "held", "cells", "index"] ["self", "registers", "operation"] (defScope st_Plain_on_object) := ⟨rfl, rfl, rfl, by decide +kernel, rfl, by decide +kernel, by decide +kernel⟩
abbrev st_Plain_do : Stmt := inClass (topS 28) 18
theorem sc_Plain_do : FnScope ["self", "thread", "operation", "registers", "answer"] ["self", "thread", "operation"] (defScope st_Plain_do) := ⟨rfl, rfl, rfl, by decide +kernel, rfl, by decide +kernel, by decide +kernel⟩
abbrev st_is_shown : Stmt := topS 20
theorem sc_is_shown : FnScope ["value", "count", "with_numbers"] ["value", "count", "with_numbers"] (defScope st_is_shown) := ⟨rfl, rfl, rfl, by decide +kernel, rfl, by decide +kernel, by decide +kernel⟩
abbrev st_met_from : Stmt := topS 21
theorem sc_met_from : FnScope ["roots", "objects", "found", "waiting", "value"] ["roots", "objects"] (defScope st_met_from) := ⟨rfl, rfl, rfl, by decide +kernel, rfl, by decide +kernel, by decide +kernel⟩
abbrev st_check_picture : Stmt := topS 22
theorem sc_check_picture : FnScope ["roots", "objects", "count", "cells", "value"] ["roots", "objects"] (defScope st_check_picture) := ⟨rfl, rfl, rfl, by decide +kernel, rfl, by decide +kernel, by decide +kernel⟩
abbrev st_filling_of : Stmt := topS 23
theorem sc_filling_of : FnScope ["number", "k", "value"] ["number", "k", "value"] (defScope st_filling_of) := ⟨rfl, rfl, rfl, by decide +kernel, rfl, by decide +kernel, by decide +kernel⟩
abbrev st_builder_of : Stmt := topS 24
theorem sc_builder_of : FnScope ["roots", "objects", "program", "number", "cells", "k", "value", "index", "source", "register"] ["roots", "objects"] (defScope st_builder_of) := ⟨rfl, rfl, rfl, by decide +kernel, rfl, by decide +kernel, by decide +kernel⟩
abbrev st_room_of : Stmt := topS 25
theorem sc_room_of : FnScope ["objects", "cells"] ["objects"] (defScope st_room_of) := ⟨rfl, rfl, rfl, by decide +kernel, rfl, by decide +kernel, by decide +kernel⟩
abbrev st__law_tape : Stmt := topS 30
theorem sc__law_tape : FnScope ["script", "seed", "cell"] ["script"] (defScope st__law_tape) := ⟨rfl, rfl, rfl, by decide +kernel, rfl, by decide +kernel, by decide +kernel⟩
abbrev st__law_draw : Stmt := topS 31
theorem sc__law_draw : FnScope ["tape", "many", "cells", "number"] ["tape", "many"] (defScope st__law_draw) := ⟨rfl, rfl, rfl, by decide +kernel, rfl, by decide +kernel, by decide +kernel⟩
abbrev st__law_pick : Stmt := topS 32
theorem sc__law_pick : FnScope ["tape", "row"] ["tape", "row"] (defScope st__law_pick) := ⟨rfl, rfl, rfl, by decide +kernel, rfl, by decide +kernel, by decide +kernel⟩
abbrev st__law_first : Stmt := topS 33
theorem sc__law_first : FnScope ["values", "k"] ["values"] (defScope st__law_first) := ⟨rfl, rfl, rfl, by decide +kernel, rfl, by decide +kernel, by decide +kernel⟩
abbrev st__law_renamed : Stmt := topS 34
theorem sc__law_renamed : FnScope ["values", "met", "value"] ["values", "met"] (defScope st__law_renamed) := ⟨rfl, rfl, rfl, by decide +kernel, rfl, by decide +kernel, by decide +kernel⟩
abbrev st__law_heap : Stmt := topS 35
theorem sc__law_heap : FnScope ["tape", "roots", "registers", "most", "many", "objects", "number", "cells", "k", "kind", "places", "met", "value"] ["tape", "roots", "registers", "most"] (defScope st__law_heap) := ⟨rfl, rfl, rfl, by decide +kernel, rfl, by decide +kernel, by decide +kernel⟩
abbrev st__law_same : Stmt := topS 36
theorem sc__law_same : FnScope ["one", "other", "k"] ["one", "other"] (defScope st__law_same) := ⟨rfl, rfl, rfl, by decide +kernel, rfl, by decide +kernel, by decide +kernel⟩
abbrev st__law_no_picture : Stmt := topS 37
theorem sc__law_no_picture : FnScope ["tape", "roots", "objects", "many", "bad", "value"] ["tape", "roots", "objects"] (defScope st__law_no_picture) := ⟨rfl, rfl, rfl, by decide +kernel, rfl, by decide +kernel, by decide +kernel⟩
abbrev st__law_refused : Stmt := topS 38
theorem sc__law_refused : FnScope ["tape", "roots", "objects", "bad", "count", "turn"] ["tape", "roots", "objects"] (defScope st__law_refused) := ⟨rfl, rfl, rfl, by decide +kernel, rfl, by decide +kernel, by decide +kernel⟩
abbrev st__law_is_picture : Stmt := topS 39
theorem sc__law_is_picture : FnScope ["roots", "objects", "met", "k", "value"] ["roots", "objects"] (defScope st__law_is_picture) := ⟨rfl, rfl, rfl, by decide +kernel, rfl, by decide +kernel, by decide +kernel⟩
abbrev st_law : Stmt := topS 40
theorem sc_law : FnScope ["script", "tape", "turn", "many", "roots", "registers", "objects", "cells", "slots", "program", "more", "store", "answers", "one", "operation", "answer"] ["script"] (defScope st_law) := ⟨rfl, rfl, rfl, by decide +kernel, rfl, by decide +kernel, by decide +kernel⟩
/-- what the top has written of plain names -/
structure Txt (K : PySem.W.Frag) (mg : Str → Option Value) : Prop where
  n_isinstance : mg "isinstance" = none
  n_len : mg "len" = none
  n_all : mg "all" = none
  n_any : mg "any" = none
  n_zip : mg "zip" = none
  n_tuple : mg "tuple" = none
  n_str : mg "str" = none
  n_int : mg "int" = none
  n_bool : mg "bool" = none
  n_abs : mg "abs" = none
  n_list : mg "list" = none
  n_range : mg "range" = none
  n_sum : mg "sum" = none
  n_set : mg "set" = none
  n_enumerate : mg "enumerate" = none
  n_sorted : mg "sorted" = none
  n_max : mg "max" = none
  c_LIMIT : ∃ u, mg "LIMIT" = some u ∧ RelV (.int 1000000000000000000) u
  c_MOST_INDEX : ∃ u, mg "MOST_INDEX" = some u ∧ RelV (.int 1000000000) u
  c_WORD_plain : ∃ u, mg "WORD_plain" = some u ∧ RelV (.str "object") u
  c_WORD_walks : ∃ u, mg "WORD_walks" = some u ∧ RelV (.str "object") u
  c_SPINE : ∃ u, mg "SPINE" = some u ∧ RelV (.int 0) u
  c_ONE : ∃ u, mg "ONE" = some u ∧ RelV (.int 1) u
  c_OTHER : ∃ u, mg "OTHER" = some u ∧ RelV (.int 2) u
  c_REGISTERS : ∃ u, mg "REGISTERS" = some u ∧ RelV (.int 3) u
end K37
set_option Elab.async false
set_option linter.all false
set_option maxRecDepth 100000
set_option maxHeartbeats 4000000
namespace K37
open PySem PySem.Spec PyProof.Rows L2 Evl Pd Wl
/-- a whole number, no bool -/
def isInt : PyData → Bool
  | .int _ => true
  | _ => false
def isCount : PyData → Bool
  | .int i => decide (0 ≤ i)
  | _ => false
/-! ### what is a teller -/
def absI (i : Int) : Int := if i < 0 then -i else i
def formL : List (Str × Str) := [("put", "rs"), ("get", "rk"), ("set", "rkn"), ("load", "rrk"), ("store", "rkr"), ("root", "ir"), ("take", "ri"), ("copy", "rr"), ("drop", "r"), ("same", "rr"), ("size", "r")]
def formS (w : Str) : Option Str := (formL.find? fun p => decide (p.1 = w)).map (·.2)
def partOk (R G : Int) (k : Str) : PyData → Bool
  | .int i => if k = "n" then decide (absI i < 1000000000000000000) else if k = "s" then decide (1 ≤ i) && decide (i ≤ 1000000000) else if k = "k" then decide (0 ≤ i) && decide (i ≤ 1000000000) else decide (0 ≤ i) && decide (i < if k = "i" then R else G)
  | _ => false
def kpart (R G : Int) (p : Nat × PyData) : Bool := partOk R G ⟨#[p.1]⟩ p.2
def isOp (R G : Int) : PyData → Bool
  | .tuple (.str w :: ps) => match formS w with
    | none => false
    | some f => decide (ps.length = f.cps.size) && (f.cps.toList.zip ps).all (kpart R G)
  | _ => false
/-! ### the data that is read -/
inductive Dm (L : Nat) : Nat → PyData → Prop
  | non (n : Nat) : Dm L n .none
  | bool (n : Nat) (b : Bool) : Dm L n (.bool b)
  | int (n : Nat) (i : Int) : Dm L n (.int i)
  | str (n : Nat) (s : Str) : PyData.strOk s = true → Dm L n (.str s)
  | tup (n : Nat) (ds : List PyData) : ds.length ≤ L → (∀ d ∈ ds, Dm L n d) → Dm L (n + 1) (.tuple ds)
  | lst (n : Nat) (ds : List PyData) : ds.length ≤ L → (∀ d ∈ ds, Dm L n d) → Dm L (n + 1) (.list ds)
theorem Dm.le {L L' n m : Nat} {d : PyData} (h : Dm L n d) (hL : L ≤ L') : n ≤ m → Dm L' m d := by
  induction h generalizing m with
  | non n => intro _; exact .non m
  | bool n b => intro _; exact .bool m b
  | int n i => intro _; exact .int m i
  | str n s hs => intro _; exact .str m s hs
  | tup n ds hl hm ih =>
    intro hmn
    obtain ⟨m, rfl⟩ : ∃ m', m = m' + 1 := ⟨m - 1, by omega⟩
    exact .tup m ds (by omega) fun d hd => ih d hd (by omega)
  | lst n ds hl hm ih =>
    intro hmn
    obtain ⟨m, rfl⟩ : ∃ m', m = m' + 1 := ⟨m - 1, by omega⟩
    exact .lst m ds (by omega) fun d hd => ih d hd (by omega)
theorem canLayAll_iff : ∀ ds : List PyData, PyData.canLayAll0 ds = true ↔ ∀ d ∈ ds, d.canLay0 = true
  | [] => by simp [PyData.canLayAll0]
  | x :: xs => by simp [PyData.canLayAll0, canLayAll_iff xs]
theorem depthAll_iff (n : Nat) : ∀ ds : List PyData, PyData.depthAll ds ≤ n ↔ ∀ d ∈ ds, d.depth ≤ n
  | [] => by simp [PyData.depthAll]
  | x :: xs => by simp [PyData.depthAll, Nat.max_le, depthAll_iff n xs]
theorem Dm.lay {L n : Nat} {d : PyData} (h : Dm L n d) : d.canLay0 = true ∧ d.depth ≤ n := by
  induction h with
  | non n => exact ⟨by rw [PyData.canLay0], by rw [PyData.depth]; omega⟩
  | bool n b => exact ⟨by rw [PyData.canLay0], by rw [PyData.depth]; omega⟩
  | int n i => exact ⟨by rw [PyData.canLay0], by rw [PyData.depth]; omega⟩
  | str n s hs => exact ⟨by rw [PyData.canLay0]; exact hs, by rw [PyData.depth]; omega⟩
  | tup n ds hl hm ih =>
    refine ⟨?_, ?_⟩
    · rw [PyData.canLay0, canLayAll_iff]; exact fun d hd => (ih d hd).1
    · rw [PyData.depth, Nat.add_le_add_iff_right, depthAll_iff]; exact fun d hd => (ih d hd).2
  | lst n ds hl hm ih =>
    refine ⟨?_, ?_⟩
    · rw [PyData.canLay0, canLayAll_iff]; exact fun d hd => (ih d hd).1
    · rw [PyData.depth, Nat.add_le_add_iff_right, depthAll_iff]; exact fun d hd => (ih d hd).2
theorem Dm.sh {L n : Nat} {d : PyData} (h : Dm L n d) (hn : n ≤ 64) : SeqAt.shaped d = true := by
  unfold SeqAt.shaped
  rw [h.lay.1, decide_eq_true (Nat.le_trans h.lay.2 hn)]; rfl
/-- what is read: small enough -/
abbrev Rd0 (d : PyData) : Prop := ∃ n, n ≤ 64 ∧ Dm 100 n d
theorem Rd0.sh {d : PyData} (h : Rd0 d) : SeqAt.shaped d = true := by obtain ⟨n, hn, h⟩ := h; exact h.sh hn
theorem Rd0.tup {ds : List PyData} (h : Rd0 (.tuple ds)) : ds.length ≤ 100 ∧ ∀ d ∈ ds, Rd0 d := by
  obtain ⟨n, hn, h⟩ := h
  cases h with
  | tup n _ hl hm => exact ⟨hl, fun d hd => ⟨n, by omega, hm d hd⟩⟩
theorem sh_str {s : Str} (h : PyData.strOk s = true) : SeqAt.shaped (.str s) = true := by simp [SeqAt.shaped, PyData.canLay0, PyData.depth, h]
theorem eqv_str (s : Str) : ∀ d, PyData.eqv d (.str s) = (match d with | .str t => decide (t = s) | _ => false)
  | .none => by simp [PyData.eqv]
  | .bool _ => by simp [PyData.eqv]
  | .int _ => by simp [PyData.eqv]
  | .str t => by
    rw [PyData.eqv]
    show (t == s) = decide (t = s)
    by_cases h : t = s
    · subst h; simp
    · rw [decide_eq_false h]; exact beq_eq_false_iff_ne.mpr h
  | .list _ => by simp [PyData.eqv]
  | .tuple _ => by simp [PyData.eqv]
  | .dict _ => by simp [PyData.eqv]
theorem isStrEq {d : PyData} {s : Str} (h : PyData.eqv d (.str s) = true) : d = .str s := by
  rw [eqv_str] at h
  cases d with
  | str t => rw [show t = s from of_decide_eq_true h]
  | _ => cases h
theorem Rd0.of {L n : Nat} {d : PyData} (h : Dm L n d) (hL : L ≤ 100) (hn : n ≤ 64) : Rd0 d := ⟨n, hn, h.le hL (Nat.le_refl _)⟩
end K37
set_option Elab.async false
set_option linter.all false
set_option maxRecDepth 100000
set_option maxHeartbeats 4000000
set_option synthInstance.maxHeartbeats 1000000
set_option synthInstance.maxSize 1000000
namespace K37
open PySem PySem.Spec PyProof.Rows L2 Evl Pd Wl

theorem Rd0.nd {d : PyData} (h : Rd0 d) : ∀ k, d ≠ .dict k := by
  rintro k rfl
  obtain ⟨n, _, h⟩ := h
  cases h
def D_is_integer (ds : List PyData) (h : Lh) (P : Wv) : Prop := ∃ x, ds = [x] ∧ Rd0 x ∧ P (.bool (isInt x)) h
def D_is_count (ds : List PyData) (h : Lh) (P : Wv) : Prop := ∃ x, ds = [x] ∧ Rd0 x ∧ P (.bool (isCount x)) h
def D_is_part (ds : List PyData) (h : Lh) (P : Wv) : Prop := ∃ k x R G, ds = [.str k, x, .int R, .int G] ∧ Rd0 x ∧ P (.bool (partOk R G k x)) h
section
variable {P : Program} {w : World} {K : PySem.W.Frag} {mg : Str → Option Value} {base : Heap}
theorem cal_is_integer (S : Src K mg "is_integer" st_is_integer ["value"]) (T : Txt K mg) : Cal P w K mg base CX0 1 "is_integer" ["value"] (SpW K D_is_integer) := by
  have sc := sc_is_integer
  refine S.cal (k := 0) sc (SpW.len fun ds h P z => by obtain ⟨_, rfl, _⟩ := z; rfl) (fun f cdv A outer s H vs Q E hr h => ⟨_, (pss_one (ps_ret (pe_and (pe_callB (k_isi (K := K) rfl) (by rfl) T.n_isinstance (by decide +kernel) (pa_cons (pv 0) (pa_cons (pe_bltn (v := .ty "int") (by rfl) T.n_int (by decide +kernel) rfl) pa_nil))) (pe_one (pe_not (pe_callB (k_isi (K := K) rfl) (by rfl) T.n_isinstance (by decide +kernel) (pa_cons (pv 0) (pa_cons (pe_bltn (v := .ty "bool") (by rfl) T.n_bool (by decide +kernel) rfl) pa_nil)))))))), h.enter fun ds lh P hD => ?_⟩)
  obtain ⟨x, rfl, rx, hk⟩ := hD
  cases x with
  | dict k => exact absurd rfl (rx.nd k)
  | _ => simpa [isInt] using hk
theorem cal_is_count (S : Src K mg "is_count" st_is_count ["value"]) (T : Txt K mg) (C_is_integer : Cal P w K mg base CX0 1 "is_integer" ["value"] (SpW K D_is_integer)) : Cal P w K mg base CX0 2 "is_count" ["value"] (SpW K D_is_count) := by
  have sc := sc_is_count
  refine S.cal (k := 1) sc (SpW.len fun ds h P z => by obtain ⟨_, rfl, _⟩ := z; rfl) (fun f cdv A outer s H vs Q E hr h => ⟨_, (pss_one (ps_ret (pe_and (pe_cal C_is_integer (hr.mono (by first | decide | omega)) rfl pass0 (pa_cons (pv 0) pa_nil)) (pe_one (pe_cmpR op_ge (pv 0) pe_int (nomark _)))))), h.enter fun ds lh P hD => ?_⟩)
  obtain ⟨x, rfl, rx, hk⟩ := hD
  cases x <;> simpa [isInt, isCount, D_is_integer, rx] using hk
theorem cal_is_part (S : Src K mg "is_part" st_is_part ["kind", "value", "roots", "registers"]) (T : Txt K mg) (C_is_integer : Cal P w K mg base CX0 1 "is_integer" ["value"] (SpW K D_is_integer)) : Cal P w K mg base CX0 2 "is_part" ["kind", "value", "roots", "registers"] (SpW K D_is_part) := by
  have sc := sc_is_part
  refine S.cal (k := 1) sc (SpW.len fun ds h P z => by obtain ⟨_, _, _, _, rfl, _⟩ := z; rfl) (fun f cdv A outer s H vs Q E hr h => ⟨_, (pss_cons (ps_if (pt_not (pt_val (pe_cal C_is_integer (hr.mono (by first | decide | omega)) rfl pass0 (pa_cons (pv 1) pa_nil)))) (pss_one (ps_ret pe_bl)) pss_nil)
  (pss_cons (ps_if (pt_cmpR op_eq (pv 0) pe_str (nomark _)) (pss_one (ps_ret (pe_cmpR op_lt (pe_callB call_abs (by rfl) T.n_abs (by decide +kernel) (pa_cons (pv 1) pa_nil)) (pe_gl rfl T.c_LIMIT) (nomark _)))) pss_nil)
  (pss_cons (ps_if (pt_cmpR op_eq (pv 0) pe_str (nomark _)) (pss_one (ps_ret (pe_and (pe_cmpR op_le pe_int (pv 1) (nomark _)) (pe_one (pe_cmpR op_le (pv 1) (pe_gl rfl T.c_MOST_INDEX) (nomark _)))))) pss_nil)
  (pss_cons (ps_if (pt_cmpR op_eq (pv 0) pe_str (nomark _)) (pss_one (ps_ret (pe_and (pe_cmpR op_le pe_int (pv 1) (nomark _)) (pe_one (pe_cmpR op_le (pv 1) (pe_gl rfl T.c_MOST_INDEX) (nomark _)))))) pss_nil)
  (pss_one (ps_ret (pe_and (pe_cmpR op_le pe_int (pv 1) (nomark _)) (pe_one (pe_cmpR op_lt (pv 1) (pe_ifExp (pt_cmpR op_eq (pv 0) pe_str (nomark _)) (pv 2) (pv 3)) (nomark _)))))))))), h.enter fun ds lh P hD => ?_⟩)
  obtain ⟨k, x, R, G, rfl, rx, hk⟩ := hD
  cases x with
  | int j =>
    simp [D_is_integer, isInt, rx]
    refine wCond.p (fun h1 => ?_) fun h1 => ?_
    · simp [partOk, h1, absI] at hk; exact hk
    refine wCond.p (fun h2 => ?_) fun h2 => ?_
    · simp [partOk, h1, h2] at hk ⊢; exact hk
    refine wCond.p (fun h3 => ?_) fun h3 => ?_
    · simp [partOk, h1, h2, h3] at hk ⊢; exact hk
    simp [partOk, h1, h2, h3] at hk
    by_cases h4 : k = "i" <;> simp [h4] at hk ⊢ <;> exact hk
  | _ => simpa [D_is_integer, isInt, rx, partOk] using hk
end
end K37
set_option Elab.async false
set_option linter.all false
set_option maxRecDepth 100000
set_option maxHeartbeats 4000000
set_option synthInstance.maxHeartbeats 1000000
set_option synthInstance.maxSize 1000000
namespace K37
open PySem PySem.Spec PyProof.Rows L2 Evl Pd Wl
/-! ### the text's tuple and dict -/
inductive EntR : List (Str × Str) → List DictEntry → Prop
  | nil : EntR [] []
  | cons {a b : Str} {e : DictEntry} {l : List (Str × Str)} {es : List DictEntry} (t u : Tok) : e.key = .str a t → e.val = .str b u → EntR l es → EntR ((a, b) :: l) (e :: es)
theorem EntR.find {z : Str} : ∀ {l : List (Str × Str)} {es : List DictEntry}, EntR l es → (match (l.find? fun p => decide (p.1 = z)).map (·.2) with | none => es.find? (·.key.isStr z) = none | some b => ∃ e u, es.find? (·.key.isStr z) = some e ∧ e.val = .str b u) ∧ es.any (·.refKey) = false
  | _, _, .nil => ⟨rfl, rfl⟩
  | _, _, .cons (a := a) (b := b) (e := e) (l := l) (es := es) t u h1 h2 h => by
    have ih := EntR.find (z := z) h
    have k : e.key.isStr z = decide (a = z) := by
      rw [h1]
      show (a == z) = _
      by_cases c : a = z
      · subst c; simp
      · rw [decide_eq_false c]; exact beq_eq_false_iff_ne.mpr c
    refine ⟨?_, ?_⟩
    · rw [List.find?_cons, List.find?_cons, k]
      by_cases c : a = z
      · rw [decide_eq_true c]; exact ⟨e, u, rfl, h2⟩
      · rw [decide_eq_false c]; exact ih.1
    · rw [List.any_cons, ih.2, Bool.or_false]
      unfold DictEntry.refKey
      rw [h1]
structure FTxt (K : PySem.W.Frag) (w : World) (mg : Str → Option Value) (aF : Addr) (es : Array DictEntry) (n : Nat) : Prop where
  c_FORMS : ∃ u, mg "FORMS" = some u ∧ RelV (.ref aF) u
  kd : KDict K w aF es n
  ent : EntR formL es.toList
theorem FTxt.look {K : PySem.W.Frag} {w : World} {mg : Str → Option Value} {aF : Addr} {es : Array DictEntry} {n : Nat} (F : FTxt K w mg aF es n) (z : Str) : ∃ r : Option Value, PySem.W.nsIn K aF z = some r ∧ r.isSome = (formS z).isSome ∧ ∀ f, formS z = some f → KDct K w aF z (.str f) := by
  have h := F.ent.find (z := z)
  have hn : PySem.W.nsIn K aF z = (match es.toList.find? (·.key.isStr z) with | some e => some (some e.val) | none => if es.toList.any (·.refKey) then none else some none) := by
    unfold PySem.W.nsIn
    rw [F.kd.at_]
    rfl
  change (match formS z with | none => es.toList.find? (·.key.isStr z) = none | some b => ∃ e u, es.toList.find? (·.key.isStr z) = some e ∧ e.val = .str b u) ∧ _ at h
  cases hf : formS z with
  | none =>
    rw [hf] at h
    rw [h.1, h.2] at hn
    exact ⟨none, hn, rfl, fun f hf => by cases hf⟩
  | some b =>
    rw [hf] at h
    obtain ⟨⟨e, u, h1, h2⟩, _⟩ := h
    rw [h1] at hn
    exact ⟨some e.val, hn, rfl, fun f hf => by cases hf; exact ⟨es, n, e.val, F.kd.at_, F.kd.lit, hn, by rw [h2]; exact ⟨u, rfl⟩⟩⟩
theorem forms_ok : ∀ p ∈ formL, p.2.cps.all (· < 128) = true ∧ p.2.cps.size ≤ 3 ∧ p.2.length ≤ 3 := by decide +kernel
theorem formS_mem {w : Str} {f : Str} (h : formS w = some f) : (w, f) ∈ formL := by
  unfold formS at h
  obtain ⟨p, hp, rfl⟩ := Option.map_eq_some_iff.mp h
  have h1 := List.mem_of_find?_eq_some hp
  have h2 := List.find?_some hp
  have : p.1 = w := of_decide_eq_true h2
  rw [← this]; exact h1
theorem all_map {α : Type} (l : List α) (f : α → Bool) : (l.map f).all id = l.all f := by rw [List.all_map]; rfl

theorem FTxt.tab {K : PySem.W.Frag} {w : World} {mg : Str → Option Value} {aF : Addr} {es : Array DictEntry} {n : Nat} (F : FTxt K w mg aF es n) : KTab K w aF formS := ⟨F.look⟩
theorem Rd0.pure {d : PyData} (h : Rd0 d) : Wl.clean d = true := by
  obtain ⟨n, hn, h⟩ := h
  clear hn
  induction h with
  | tup n ds _ _ ih => rw [clean_tup, cleans_iff]; exact ih
  | lst n ds _ _ ih => rw [clean_lst, cleans_iff]; exact ih
  | _ => simp
theorem head_or (x : PyData) : (∃ w ds, x = .tuple (.str w :: ds)) ∨ ∀ w ds, x ≠ .tuple (.str w :: ds) := by
  by_cases h : ∃ w ds, x = .tuple (.str w :: ds)
  · exact .inl h
  · exact .inr fun w ds e => h ⟨w, ds, e⟩
def D_is_op (ds : List PyData) (h : Lh) (P : Wv) : Prop := ∃ x R G, ds = [x, .int R, .int G] ∧ Rd0 x ∧ P (.bool (isOp R G x)) h
section
variable {P : Program} {w : World} {K : PySem.W.Frag} {mg : Str → Option Value} {base : Heap} {aF : Addr} {es : Array DictEntry} {nF : Nat}
theorem cal_is_operation (S : SrcK K mg "is_operation" st_is_operation ["value", "roots", "registers"] 1 ["roots", "registers"]) (T : Txt K mg) (FT : FTxt K w mg aF es nF) (C_is_part : Cal P w K mg base CX0 2 "is_part" ["kind", "value", "roots", "registers"] (SpW K D_is_part)) : CalK P w K mg base CX0 3 "is_operation" ["value", "roots", "registers"] 1 ["roots", "registers"] (SpW K D_is_op) := by
  have sc := sc_is_operation
  haveI := FT.tab
  haveI := fun {XX : XP} {ta : TE} {a : WE} [A : RE K XX ta a] => tab_not (K := K) (XX := XX) w (p := aF) (look := formS) (ta := ta) (a := a)
  refine S.cal (k := 2) sc (SpW.len fun ds h P z => by obtain ⟨_, _, _, rfl, _⟩ := z; rfl) (fun f cdv A outer s H vs Q E hr h => ⟨_, (pss_cons (ps_if (PW.pt (pw_or (pt_not (pt_val (pe_callB (k_isi (K := K) rfl) (by rfl) T.n_isinstance (by decide +kernel) (pa_cons (pv 0) (pa_cons (pe_bltn (v := .ty "tuple") (by rfl) T.n_tuple (by decide +kernel) rfl) pa_nil))))) (pw_or (pt_cmpR (k_eqD (K := K) rfl (hr.units)) (pv 0) (pe_tup pa_nil) (nomark _)) (pw_or (pt_not (pt_val (pe_callB (k_isi (K := K) rfl) (by rfl) T.n_isinstance (by decide +kernel) (pa_cons (pe_ix (k_ix_tup (K := K) rfl) (pv 0) pe_int (fun _ _ => rfl)) (pa_cons (pe_bltn (v := .ty "str") (by rfl) T.n_str (by decide +kernel) rfl) pa_nil))))) (pw_or1 (pt_cmpR (k_notIn_kd (K := K) rfl FT.kd) (pe_ix (k_ix_tup (K := K) rfl) (pv 0) pe_int (fun _ _ => rfl)) (pe_gl rfl FT.c_FORMS) (by rfl))))))) (pss_one (ps_ret pe_bl)) pss_nil)
  (pss_cons (ps_set (i := 3) sc.nd rfl (by first | exact Or.inl rfl | exact Or.inr rfl) (pe_ix (k_ix_kd (K := K) (w := w) rfl rfl) (pe_gl rfl FT.c_FORMS) (pe_ix (k_ix_tup (K := K) rfl) (pv 0) pe_int (fun _ _ => rfl)) (fun _ _ => rfl)))
  (pss_cons (ps_if (pt_cmpR op_ne (pe_callB (k_len_seq (K := K) rfl) (by rfl) T.n_len PySem.boot_len (pa_cons (pv 0) pa_nil)) (pe_op op_add (pe_callB call_len_str (by rfl) T.n_len PySem.boot_len (pa_cons (pv 3) pa_nil)) pe_int) (nomark _)) (pss_one (ps_ret pe_bl)) pss_nil)
  (pss_one (ps_ret (pe_callB (k_all (K := K) rfl rfl) (by rfl) T.n_all (by decide +kernel) (pa_cons (pe_lc (own := [("kind", 4), ("part", 5)]) rfl sc.nd (k_pi_zipS (K := K) rfl (by rfl) T.n_zip (pa_cons (pv 3) (pa_cons (pe_slice (k_sl_tupA (K := K) rfl) (pv 0) (po_some pe_int) po_none) pa_nil))) (blkOk_by (by first | decide +kernel | kernel_rfl)) (fun _ _ _ _ _ => (k_pg_tup (K := K) (n := 2) rfl rfl (pgs_cons (pg_name (i := 4) sc.nd rfl (by first | exact Or.inl rfl | exact Or.inr rfl)) (pgs_cons (pg_name (i := 5) sc.nd rfl (by first | exact Or.inl rfl | exact Or.inr rfl)) pgs_nil)))) (fun _ _ _ _ _ => pts_nil) (fun _ _ _ _ _ => (pe_cal C_is_part (hr.mono (by first | decide | omega)) rfl pass0 (pa_cons (pv 4) (pa_cons (pv 5) (pa_cons (pv 1) (pa_cons (pv 2) pa_nil))))))) pa_nil))))))), h.enter fun ds lh P hD => ?_⟩)
  obtain ⟨x, R, G, rfl, rx, hk⟩ := hD
  have hp := rx.pure
  have hs := rx.sh
  rcases head_or x with ⟨wd, ps, rfl⟩ | hx
  · simp at hp
    have eop : isOp R G (.tuple (.str wd :: ps)) = match formS wd with | none => false | some f => decide (ps.length = f.cps.size) && (f.cps.toList.zip ps).all (kpart R G) := rfl
    rw [eop] at hk
    simp [hp, hs, wCond]
    cases hf : formS wd with
    | none => rw [hf] at hk; simpa using hk
    | some fm =>
      rw [hf] at hk
      have fok : fm.cps.all (· < 128) = true ∧ fm.cps.size ≤ 3 ∧ fm.length ≤ 3 := forms_ok (wd, fm) (formS_mem hf)
      have hln : fm.length = fm.cps.size := rfl
      simp
      refine ⟨by omega, fun hb => ?_, fun hb => ?_⟩
      · simp [show ¬ ps.length = fm.cps.size from hb] at hk; exact hk
      · simp [show ps.length = fm.cps.size from hb] at hk
        have eq : Pd.pairs (Pd.signs fm) ps = (fm.cps.toList.zip ps).map fun p => PyData.tuple [.str ⟨#[p.1]⟩, p.2] := by
          unfold Pd.pairs Pd.signs
          rw [List.zip_map_left, List.map_map]; rfl
        simp [hb, hln, eq]
        refine ⟨by simpa using fok.1, ?_⟩
        refine lcL_map (fun p => .bool (kpart R G p)) trivial (by have := fok.2.1; simp; omega) (fun p hp' F hF => ?_) ?_
        · have : Rd0 p.2 := rx.tup.2 _ (List.mem_cons_of_mem _ (List.of_mem_zip hp').2)
          simp [D_is_part, this]
          exact hF
        · simp only [boolL_mapF]
          simpa using hk
  · have e0 : isOp R G x = false := by
      unfold isOp
      split
      · exact absurd rfl (hx _ _)
      · rfl
    rw [e0] at hk
    cases x with
    | tuple ds =>
      cases ds with
      | nil => simpa using hk
      | cons a l =>
        simp at hp
        cases a with
        | str s => exact absurd rfl (hx s l)
        | dict k => simp [Wl.clean] at hp
        | _ => simpa [hp, hs] using hk
    | dict k => exact absurd rfl (rx.nd k)
    | _ => simpa using hk
end
end K37
set_option Elab.async false
set_option linter.all false
set_option maxRecDepth 100000
set_option maxHeartbeats 1000000
namespace K37
open PySem PySem.Spec PyProof.Rows L2 Evl Pd Wl
/-! operations and what they do -/
inductive Op where
  | put (r s : Int) | get (r k : Int) | set (r k n : Int) | load (q r k : Int) | store (r k q : Int)
  | root (i r : Int) | take (r i : Int) | copy (r q : Int) | drop (r : Int) | same (r q : Int) | size (r : Int)
def Op.d : Op → PyData
  | .put r s => .tuple [.str "put", .int r, .int s]
  | .get r k => .tuple [.str "get", .int r, .int k]
  | .set r k n => .tuple [.str "set", .int r, .int k, .int n]
  | .load q r k => .tuple [.str "load", .int q, .int r, .int k]
  | .store r k q => .tuple [.str "store", .int r, .int k, .int q]
  | .root i r => .tuple [.str "root", .int i, .int r]
  | .take r i => .tuple [.str "take", .int r, .int i]
  | .copy r q => .tuple [.str "copy", .int r, .int q]
  | .drop r => .tuple [.str "drop", .int r]
  | .same r q => .tuple [.str "same", .int r, .int q]
  | .size r => .tuple [.str "size", .int r]
@[simp] theorem d_put (r s : Int) : (Op.put r s).d = .tuple [.str "put", .int r, .int s] := rfl
@[simp] theorem d_get (r k : Int) : (Op.get r k).d = .tuple [.str "get", .int r, .int k] := rfl
@[simp] theorem d_set (r k n : Int) : (Op.set r k n).d = .tuple [.str "set", .int r, .int k, .int n] := rfl
@[simp] theorem d_load (q r k : Int) : (Op.load q r k).d = .tuple [.str "load", .int q, .int r, .int k] := rfl
@[simp] theorem d_store (r k q : Int) : (Op.store r k q).d = .tuple [.str "store", .int r, .int k, .int q] := rfl
@[simp] theorem d_root (i r : Int) : (Op.root i r).d = .tuple [.str "root", .int i, .int r] := rfl
@[simp] theorem d_take (r i : Int) : (Op.take r i).d = .tuple [.str "take", .int r, .int i] := rfl
@[simp] theorem d_copy (r q : Int) : (Op.copy r q).d = .tuple [.str "copy", .int r, .int q] := rfl
@[simp] theorem d_drop (r : Int) : (Op.drop r).d = .tuple [.str "drop", .int r] := rfl
@[simp] theorem d_same (r q : Int) : (Op.same r q).d = .tuple [.str "same", .int r, .int q] := rfl
@[simp] theorem d_size (r : Int) : (Op.size r).d = .tuple [.str "size", .int r] := rfl
def inR (n i : Int) : Prop := 0 ≤ i ∧ i < n
def Op.ok (R G : Int) : Op → Prop
  | .put r s => inR G r ∧ 1 ≤ s ∧ s ≤ 50
  | .get r k => inR G r ∧ 0 ≤ k ∧ k ≤ 1000000000
  | .set r k n => inR G r ∧ (0 ≤ k ∧ k ≤ 1000000000) ∧ absI n < 1000000000000000000
  | .load q r k => inR G q ∧ inR G r ∧ 0 ≤ k ∧ k ≤ 1000000000
  | .store r k q => inR G r ∧ (0 ≤ k ∧ k ≤ 1000000000) ∧ inR G q
  | .root i r => inR R i ∧ inR G r
  | .take r i => inR G r ∧ inR R i
  | .copy r q => inR G r ∧ inR G q
  | .drop r => inR G r
  | .same r q => inR G r ∧ inR G q
  | .size r => inR G r
abbrev T1 (s : Str) : PyData := .tuple [.str s]
def row (st : PSt) (t : Nat) : List PyData := st.regs.getD t []
def rv (st : PSt) (t : Nat) (r : Int) : PyData := (row st t).getD r.toNat .none
def setR (st : PSt) (t : Nat) (r : Int) (v : PyData) : PSt := { st with regs := st.regs.set t ((row st t).set r.toNat v) }
def setRoot (st : PSt) (i : Int) (v : PyData) : PSt := { st with roots := st.roots.set i.toNat v }
def setC (st : PSt) (n k : Int) (v : PyData) : PSt := { st with look := fun m => if m = n then (st.look n).set k.toNat v else st.look m }
def newO (st : PSt) (s : Int) : PSt := { st with look := fun m => if m = st.count then List.replicate s.toNat .none else st.look m, count := st.count + 1 }
def cell (st : PSt) (n k : Int) : PyData := (st.look n).getD k.toNat .none
def isI : PyData → Bool
  | .int _ => true
  | _ => false
def onI (v : PyData) : PyData := if isI v then v else .none
def onN (v : PyData) : PyData := if isI v then .none else v
def onO (st : PSt) (v : PyData) (k : Int) (f : Int → PyData × PSt) : PyData × PSt := match refOf v with
  | none => (T1 "none", st)
  | some n => if ((st.look n).length : Int) ≤ k then (T1 "range", st) else f n
def step (st : PSt) (t : Nat) : Op → PyData × PSt
  | .put r s => if fits st s then (T1 "ok", setR (newO st s) t r (ref st.count)) else (T1 "full", st)
  | .get r k => onO st (rv st t r) k fun n => (.tuple [.str "value", onI (cell st n k)], st)
  | .set r k x => onO st (rv st t r) k fun n => (T1 "ok", setC st n k (.int x))
  | .load q r k => onO st (rv st t r) k fun n => (T1 "ok", setR st t q (onN (cell st n k)))
  | .store r k q => onO st (rv st t r) k fun n => (T1 "ok", setC st n k (rv st t q))
  | .root i r => (T1 "ok", setRoot st i (rv st t r))
  | .take r i => (T1 "ok", setR st t r (st.roots.getD i.toNat .none))
  | .copy r q => (T1 "ok", setR st t r (rv st t q))
  | .drop r => (T1 "ok", setR st t r .none)
  | .same r q => (.tuple [.str "same", .bool (PyData.eqv (rv st t r) (rv st t q))], st)
  | .size r => match refOf (rv st t r) with
    | none => (T1 "none", st)
    | some n => (.tuple [.str "size", .int ((st.look n).length : Int)], st)
/-- the shape: numbers of roots, of registers -/
structure Shp (st : PSt) (R G : Nat) : Prop where
  r : st.roots.length = R
  g : ∀ row ∈ st.regs, row.length = G
theorem getD_lt {α : Type} {l : List α} {i : Nat} {d : α} (h : i < l.length) : l.getD i d = l[i] := by
  rw [List.getD_eq_getElem?_getD, List.getElem?_eq_getElem h]; rfl
theorem getD_ge {α : Type} {l : List α} {i : Nat} {d : α} (h : l.length ≤ i) : l.getD i d = d := by
  rw [List.getD_eq_getElem?_getD, List.getElem?_eq_none h]; rfl
theorem getD_mem {α : Type} {l : List α} {i : Nat} {d : α} (h : i < l.length) : l.getD i d ∈ l := by
  rw [getD_lt h]; exact List.getElem_mem h
theorem getD_or {l : List PyData} {i : Nat} {p : PyData → Prop} (hl : ∀ v ∈ l, p v) (hn : p .none) : p (l.getD i .none) := by
  rcases Nat.lt_or_ge i l.length with h | h
  · exact hl _ (getD_mem h)
  · rw [getD_ge h]; exact hn
theorem set_all {α : Type} {l : List α} {i : Nat} {v : α} {p : α → Prop} (hl : ∀ v ∈ l, p v) (hv : p v) : ∀ u ∈ l.set i v, p u := fun u hu => by
  rcases List.mem_or_eq_of_mem_set hu with h | rfl
  · exact hl u h
  · exact hv
theorem row_mem {st : PSt} {t : Nat} (h : t < st.regs.length) : row st t ∈ st.regs := getD_mem h
theorem Wf.row {st : PSt} (W : Wf st) (t : Nat) : ∀ v ∈ row st t, OkR st.count v := by
  unfold K37.row
  rcases Nat.lt_or_ge t st.regs.length with h | h
  · exact W.regs _ (getD_mem h)
  · rw [getD_ge h]; exact fun v z => absurd z List.not_mem_nil
theorem Wf.rv {st : PSt} (W : Wf st) (t : Nat) (r : Int) : OkR st.count (rv st t r) := getD_or (W.row t) (.inl rfl)
theorem sum_set : ∀ {l : List Nat} {t x : Nat}, l.getD t 0 = x → (l.set t x).sum = l.sum
  | [], _, _, _ => by simp
  | a :: l, 0, x, h => by simp at h; simp [h]
  | a :: l, t + 1, x, h => by simp at h; simp [sum_set (l := l) (t := t) (x := x) (by simpa using h)]
theorem flat_set {l : List (List PyData)} {t i : Nat} {v : PyData} : (l.set t ((l.getD t []).set i v)).flatten.length = l.flatten.length := by
  rw [List.length_flatten, List.length_flatten, List.map_set]
  refine sum_set ?_
  rw [List.length_set]
  simp only [List.getD_eq_getElem?_getD, List.getElem?_map]
  cases l[t]? <;> simp
theorem Wf.setR {st : PSt} (W : Wf st) {t : Nat} {r : Int} {v : PyData} (h : OkR st.count v) : Wf (setR st t r v) where
  count := W.count
  roots := W.roots
  regs := set_all W.regs (set_all (W.row t) h)
  look := W.look
  size := by
    show st.roots.length + (st.regs.set t ((st.regs.getD t []).set r.toNat v)).flatten.length ≤ 1000
    rw [flat_set]; exact W.size
  thr := by
    show (st.regs.set _ _).length ≤ 1000
    rw [List.length_set]; exact W.thr
theorem Wf.setRoot {st : PSt} (W : Wf st) {i : Int} {v : PyData} (h : OkR st.count v) : Wf (setRoot st i v) where
  count := W.count
  roots := set_all W.roots h
  regs := W.regs
  look := W.look
  size := by
    show (st.roots.set i.toNat v).length + _ ≤ 1000
    rw [List.length_set]; exact W.size
  thr := W.thr
theorem Wf.setC {st : PSt} (W : Wf st) {n k : Int} {v : PyData} (h : OkV st.count v) : Wf (setC st n k v) where
  count := W.count
  roots := W.roots
  regs := W.regs
  look := fun m hm => by
    show (if m = n then _ else _ : List PyData).length ≤ 50 ∧ ∀ v ∈ (if m = n then _ else _ : List PyData), _
    by_cases c : m = n
    · subst c
      simp only [if_true]
      rw [List.length_set]
      exact ⟨(W.look m hm).1, set_all (W.look m hm).2 h⟩
    · simp only [if_neg c]; exact W.look m hm
  size := W.size
  thr := W.thr
theorem Wf.newO {st : PSt} (W : Wf st) {s : Int} (h : s ≤ 50) (hc : st.count < 1000) : Wf (newO st s) where
  count := hc
  roots := fun v h => (W.roots v h).mono (Nat.le_succ _)
  regs := fun row h v hv => (W.regs row h v hv).mono (Nat.le_succ _)
  look := fun m hm => by
    show (if m = (st.count : Int) then _ else _ : List PyData).length ≤ 50 ∧ ∀ v ∈ (if m = (st.count : Int) then _ else _ : List PyData), _
    by_cases c : m = (st.count : Int)
    · simp only [if_pos c]
      rw [List.length_replicate]
      exact ⟨by omega, fun v hv => by rw [(List.mem_replicate.mp hv).2]; exact .inl (.inl rfl)⟩
    · simp only [if_neg c]
      have hk : Kn st.count m := ⟨hm.1, by have h2 : m < ((st.count + 1 : Nat) : Int) := hm.2; omega⟩
      exact ⟨(W.look m hk).1, fun v hv => ((W.look m hk).2 v hv).mono (Nat.le_succ _)⟩
  size := W.size
  thr := W.thr
theorem Wf.cell {st : PSt} (W : Wf st) {n : Int} (k : Int) (h : Kn st.count n) : OkV st.count (cell st n k) := getD_or (W.look n h).2 (.inl (.inl rfl))
theorem OkV.onN {c : Nat} {v : PyData} (h : OkV c v) : OkR c (onN v) := by
  rcases h with h | ⟨i, rfl⟩
  · have : isI v = false := by rcases h with rfl | ⟨n, rfl, _⟩ <;> rfl
    unfold K37.onN; rw [this]; exact h
  · exact .inl rfl
theorem used_nn (st : PSt) : 0 ≤ used st := by
  unfold used
  generalize met st = l
  induction l with
  | nil => simp
  | cons a l ih => simp only [List.map_cons, List.sum_cons]; omega
def Op.sm : Op → Prop
  | .put _ s => s ≤ 50
  | _ => True
theorem Op.ok.sm {op : Op} {R G : Int} (h : op.ok R G) : op.sm := by
  cases op <;> first | exact h.2.2 | exact trivial
theorem onO_cases {st : PSt} {v : PyData} {k : Int} {f : Int → PyData × PSt} {p : PyData × PSt → Prop} (W : Wf st) (hv : OkR st.count v) (h0 : ∀ a, p (a, st)) (h1 : ∀ n, v = ref n → Kn st.count n → ¬ ((st.look n).length : Int) ≤ k → p (f n)) : p (onO st v k f) := by
  unfold onO
  split
  · exact h0 _
  · rename_i n e
    obtain ⟨e1, e2⟩ := hv.kn e
    split
    · exact h0 _
    · rename_i c
      exact h1 n e1 e2 c
abbrev Adv (st : PSt) (q : PyData × PSt) : Prop := Wf q.2 ∧ q.2.count ≤ st.count + 1 ∧ st.count ≤ q.2.count
theorem step_put (st : PSt) (t : Nat) (r s : Int) : step st t (.put r s) = if fits st s then (T1 "ok", setR (newO st s) t r (ref st.count)) else (T1 "full", st) := rfl
theorem step_size (st : PSt) (t : Nat) (r : Int) : step st t (.size r) = match refOf (rv st t r) with
    | none => (T1 "none", st)
    | some n => (.tuple [.str "size", .int ((st.look n).length : Int)], st) := rfl
/-- an operation keeps all that is asked of a state -/
theorem step_wf {st : PSt} {t : Nat} (W : Wf st) (hc : st.count < 1000) (op : Op) (ho : op.sm) : Adv st (step st t op) := by
  have h0 : ∀ a, Adv st (a, st) := fun a => ⟨W, Nat.le_succ _, Nat.le_refl _⟩
  have h1 : ∀ a st', Wf st' → st'.count = st.count → Adv st (a, st') := fun a st' W' e => ⟨W', by show st'.count ≤ _; omega, by show _ ≤ st'.count; omega⟩
  cases op with
  | put r s =>
    rw [step_put]
    split
    · rename_i h
      refine ⟨(W.newO ho hc).setR (.inr ⟨_, rfl, by omega, ?_⟩), Nat.le_refl _, Nat.le_succ _⟩
      show (st.count : Int) < ((st.count + 1 : Nat) : Int)
      omega
    · exact h0 _
  | get r k => exact onO_cases (p := Adv st) W (W.rv t r) h0 fun n e hn _ => h0 _
  | set r k x => exact onO_cases (p := Adv st) W (W.rv t r) h0 fun n e hn _ => h1 _ _ (W.setC (.inr ⟨x, rfl⟩)) rfl
  | load q r k => exact onO_cases (p := Adv st) W (W.rv t r) h0 fun n e hn _ => h1 _ _ (W.setR (W.cell k hn).onN) rfl
  | store r k q => exact onO_cases (p := Adv st) W (W.rv t r) h0 fun n e hn _ => h1 _ _ (W.setC (.inl (W.rv t q))) rfl
  | root i r => exact h1 _ _ (W.setRoot (W.rv t r)) rfl
  | take r i => exact h1 _ _ (W.setR (getD_or W.roots (.inl rfl))) rfl
  | copy r q => exact h1 _ _ (W.setR (W.rv t q)) rfl
  | drop r => exact h1 _ _ (W.setR (.inl rfl)) rfl
  | same r q => exact h0 _
  | size r => rw [step_size]; split <;> exact h0 _
theorem Shp.setR {st : PSt} {R G : Nat} (S : Shp st R G) {t : Nat} {r : Int} {v : PyData} : Shp (setR st t r v) R G where
  r := S.r
  g := by
    rcases Nat.lt_or_ge t st.regs.length with h | h
    · refine set_all S.g ?_
      rw [List.length_set]; exact S.g _ (row_mem h)
    · show ∀ row ∈ st.regs.set t _, _
      rw [List.set_eq_of_length_le h]; exact S.g
theorem step_shp {st : PSt} {t R G : Nat} (S : Shp st R G) (op : Op) : Shp (step st t op).2 R G ∧ (step st t op).2.regs.length = st.regs.length ∧ (step st t op).2.cells = st.cells ∧ (step st t op).2.slots = st.slots := by
  have h0 : ∀ st : PSt, Shp st R G → ∀ a : PyData, Shp (a, st).2 R G ∧ (a, st).2.regs.length = st.regs.length ∧ (a, st).2.cells = st.cells ∧ (a, st).2.slots = st.slots := fun st S a => ⟨S, rfl, rfl, rfl⟩
  have ho : ∀ (v : PyData) (k : Int) (f : Int → PyData × PSt), (∀ n, Shp (f n).2 R G ∧ (f n).2.regs.length = st.regs.length ∧ (f n).2.cells = st.cells ∧ (f n).2.slots = st.slots) → Shp (onO st v k f).2 R G ∧ (onO st v k f).2.regs.length = st.regs.length ∧ (onO st v k f).2.cells = st.cells ∧ (onO st v k f).2.slots = st.slots := fun v k f hf => by
    unfold onO
    split
    · exact h0 st S _
    · split
      · exact h0 st S _
      · exact hf _
  have hr : ∀ r v, Shp (K37.setR st t r v) R G ∧ (K37.setR st t r v).regs.length = st.regs.length ∧ (K37.setR st t r v).cells = st.cells ∧ (K37.setR st t r v).slots = st.slots := fun r v => ⟨S.setR, List.length_set, rfl, rfl⟩
  have hC : ∀ n k v, Shp (setC st n k v) R G ∧ (setC st n k v).regs.length = st.regs.length ∧ (setC st n k v).cells = st.cells ∧ (setC st n k v).slots = st.slots := fun n k v => ⟨⟨S.r, S.g⟩, rfl, rfl, rfl⟩
  cases op with
  | put r s =>
    rw [step_put]
    split
    · exact ⟨Shp.setR (st := newO st s) ⟨S.r, S.g⟩, List.length_set, rfl, rfl⟩
    · exact h0 st S _
  | get r k => exact ho _ _ _ fun n => h0 st S _
  | set r k x => exact ho _ _ _ fun n => hC _ _ _
  | load q r k => exact ho _ _ _ fun n => hr _ _
  | store r k q => exact ho _ _ _ fun n => hC _ _ _
  | root i r => exact ⟨⟨by show (st.roots.set _ _).length = R; rw [List.length_set]; exact S.r, S.g⟩, rfl, rfl, rfl⟩
  | take r i => exact hr _ _
  | copy r q => exact hr _ _
  | drop r => exact hr _ _
  | same r q => exact h0 st S _
  | size r => rw [step_size]; split <;> exact h0 st S _
theorem mem_flat {r : List PyData} : ∀ {l : List (List PyData)}, r ∈ l → r.length ≤ l.flatten.length
  | a :: l, h => by
    rw [List.flatten_cons, List.length_append]
    rcases List.mem_cons.mp h with rfl | h
    · omega
    · have := mem_flat h; omega
/-- the picture -/
def ixOf (st : PSt) (n : Int) : Int := (((met st).idxOf n : Nat) : Int)
def nmd (st : PSt) (v : PyData) : PyData := match refOf v with
  | some n => ref (ixOf st n)
  | none => v
def nms (st : PSt) (vs : List PyData) : PyData := .tuple (vs.map (nmd st))
def pict (st : PSt) : PyData := .tuple [nms st st.roots, .tuple (st.regs.map (nms st)), .tuple ((met st).map fun k => nms st (st.look k))]
end K37
set_option Elab.async false
set_option linter.all false
set_option maxRecDepth 100000
set_option maxHeartbeats 1000000
namespace K37
open PySem PySem.Spec PyProof.Rows L2 Evl Pd Wl
structure TTxt (K : PySem.W.Frag) (C : Addr) : Prop where
  cl : Cls K C
  n0 : NoAttr K C "_cells"
  n1 : NoAttr K C "_slots"
  n2 : NoAttr K C "_roots"
  n3 : NoAttr K C "_registers"
  n4 : NoAttr K C "_objects"
  n5 : NoAttr K C "_count"
/-- all that was stays -/
abbrev Lx (h h' : Lh) : Prop := ∀ x o, h x = some o → h' x = some o
theorem Lx.refl (h : Lh) : Lx h h := fun _ _ e => e
theorem Lx.trans {h h1 h2 : Lh} (a : Lx h h1) (b : Lx h1 h2) : Lx h h2 := fun x o e => b x o (a x o e)
theorem Lx.new {h : Lh} {p : Addr} {o : LO} (n : h p = none) : Lx h (up h p o) := up_ex n
theorem Lx.nn {h h' : Lh} (a : Lx h h') {p : Addr} (e : h' p = Option.none) : h p = Option.none := by
  cases q : h p with
  | none => rfl
  | some o => rw [a p o q] at e; cases e
theorem Lx.ne {h h' : Lh} (a : Lx h h') {p x : Addr} {o : LO} (e : h' p = none) (q : h x = some o) : x ≠ p := fun z => by subst z; rw [a x o q] at e; cases e
theorem Lx.put {h h' : Lh} (a : Lx h h') {p : Addr} {u : LO} (n : h p = none) : Lx h (up h' p u) := fun x o e => by
  rw [up_ne (fun z => by subst z; rw [n] at e; cases e)]; exact a x o e
/-- the places of an instance -/
structure Pl where
  a : Addr
  r : Addr
  g : Addr
  o : Addr
  gs : List Addr
  ca : Int → Addr
def Pl.F (p : Pl) (S : List Int) : List Addr := p.a :: p.r :: p.g :: p.o :: (p.gs ++ S.map p.ca)
abbrev po (C : Addr) (st : PSt) (r g o : Addr) : LO := .ins C [("_cells", .int st.cells), ("_slots", .int st.slots), ("_roots", rf r), ("_registers", rf g), ("_objects", rf o), ("_count", .int ((st.count : Nat) : Int))]
abbrev kvsOf (ca : Int → Addr) (S : List Int) : List (Key × PyData) := S.map fun k => (.inl k, rf (ca k))
/-- the instance at p.a: its objects are those of S -/
structure PlainK (C : Addr) (st : PSt) (p : Pl) (S : List Int) (h : Lh) : Prop where
  nd : (p.F S).Nodup
  a : h p.a = some (po C st p.r p.g p.o)
  r : h p.r = some (.lst st.roots)
  g : h p.g = some (.lst (p.gs.map fun x => rf x))
  o : h p.o = some (.dK (kvsOf p.ca S))
  gl : p.gs.length = st.regs.length
  gr : ∀ (i : Nat) (hi : i < p.gs.length), h p.gs[i] = some (.lst (row st i))
  oc : ∀ k ∈ S, h (p.ca k) = some (.lst (st.look k))
/-- what is held, and what is in the cells of S, is in S -/
structure Clo (st : PSt) (S : List Int) : Prop where
  wf : Wf st
  hd : Rin (· ∈ S) (held st)
  lk : ∀ k ∈ S, Rin (· ∈ S) (st.look k)
  kn : ∀ k ∈ S, Kn st.count k
  nd : S.Nodup
theorem Clo.len {st : PSt} {S : List Int} (C : Clo st S) : S.length ≤ 1000 := Nat.le_trans (len_kn C.nd C.kn) C.wf.count
theorem Clo.met {st : PSt} {S : List Int} (C : Clo st S) : ∀ n ∈ met st, n ∈ S := met_in C.hd C.lk
theorem Wf.clo {st : PSt} (W : Wf st) : Clo st (met st) := ⟨W, met_held, W.metClosed, W.metKn, met_nodup⟩
section
variable {C : Addr} {st : PSt} {p : Pl} {S : List Int} {h h' : Lh}
theorem PlainK.mem (A : PlainK C st p S h) : ∀ x ∈ p.F S, ∃ o, h x = some o := fun x hx => by
  unfold Pl.F at hx
  simp only [List.mem_cons, List.mem_append, List.mem_map] at hx
  rcases hx with rfl | rfl | rfl | rfl | hx | ⟨k, hk, rfl⟩
  · exact ⟨_, A.a⟩
  · exact ⟨_, A.r⟩
  · exact ⟨_, A.g⟩
  · exact ⟨_, A.o⟩
  · obtain ⟨i, hi, rfl⟩ := List.getElem_of_mem hx
    exact ⟨_, A.gr i hi⟩
  · exact ⟨_, A.oc k hk⟩
theorem PlainK.keep (A : PlainK C st p S h) (f : ∀ x ∈ p.F S, ∀ o, h x = some o → h' x = some o) : PlainK C st p S h' where
  nd := A.nd
  a := f _ (by simp [Pl.F]) _ A.a
  r := f _ (by simp [Pl.F]) _ A.r
  g := f _ (by simp [Pl.F]) _ A.g
  o := f _ (by simp [Pl.F]) _ A.o
  gl := A.gl
  gr := fun i hi => f _ (by simp [Pl.F]) _ (A.gr i hi)
  oc := fun k hk => f _ (by simp only [Pl.F, List.mem_cons, List.mem_append, List.mem_map]; exact .inr (.inr (.inr (.inr (.inr ⟨k, hk, rfl⟩))))) _ (A.oc k hk)
theorem PlainK.ex (A : PlainK C st p S h) (f : Lx h h') : PlainK C st p S h' := A.keep fun x _ => f x
theorem PlainK.val (A : PlainK C st p S h) {k : Int} (hk : k ∈ S) : valD (kvsOf p.ca S) (.inl k) = some (rf (p.ca k)) := by
  unfold valD
  clear A
  induction S with
  | nil => cases hk
  | cons a S ih =>
    unfold kvsOf
    rw [List.map_cons, List.find?_cons]
    by_cases c : a = k
    · subst c; simp
    · have : (Sum.inl a : Key) ≠ .inl k := fun z => c (Sum.inl.inj z)
      simp only [decide_eq_false this]
      rcases List.mem_cons.mp hk with rfl | hk
      · exact absurd rfl c
      · exact ih hk
theorem PlainK.gz (A : PlainK C st p S h) : ∀ x ∈ p.gs.zip st.regs, h x.1 = some (.lst x.2) ∧ x.2 ∈ st.regs := fun x hx => by
  obtain ⟨i, hi, e⟩ := List.getElem_of_mem hx
  have hi' := hi
  rw [List.length_zip] at hi'
  have l := A.gl
  rw [List.getElem_zip] at e
  subst e
  refine ⟨?_, List.getElem_mem _⟩
  rw [A.gr i (by omega)]
  unfold row
  rw [getD_lt (by omega)]
theorem PlainK.gfst (A : PlainK C st p S h) : (p.gs.map fun x => rf x) = (p.gs.zip st.regs).map fun x => rf x.1 := by
  have : (p.gs.zip st.regs).map Prod.fst = p.gs := List.map_fst_zip (by rw [A.gl]; exact Nat.le_refl _)
  conv => lhs; rw [← this]
  rw [List.map_map]; rfl
theorem PlainK.gsnd (A : PlainK C st p S h) {β : Type} (f : List PyData → β) : ((p.gs.zip st.regs).map fun x => f x.2) = st.regs.map f := by
  have : (p.gs.zip st.regs).map Prod.snd = st.regs := List.map_snd_zip (by rw [A.gl]; exact Nat.le_refl _)
  conv => rhs; rw [← this]
  rw [List.map_map]; rfl
end
end K37
set_option Elab.async false
set_option linter.all false
set_option maxRecDepth 100000
set_option maxHeartbeats 4000000
set_option synthInstance.maxHeartbeats 1000000
set_option synthInstance.maxSize 1000000
namespace K37
open PySem PySem.Spec PyProof.Rows L2 Evl Pd Wl
section
variable {P : Program} {w : World} {K : PySem.W.Frag} {mg : Str → Option Value} {base : Heap} {C : Addr}
def D_held (C : Addr) (ds : List PyData) (h : Lh) (P : Wv) : Prop := ∃ (st : PSt) (p : Pl) (S : List Int), ds = [rf p.a] ∧ PlainK C st p S h ∧ Wf st ∧
  ∀ q h', Lx h h' → h q = none → h' q = some (.lst (held st)) → P (rf q) h'
theorem regs_drop {st : PSt} {gs : List Addr} (e : gs.length = st.regs.length) {i : Nat} (hi : i < gs.length) : (st.regs.drop i) = row st i :: st.regs.drop (i + 1) := by
  rw [List.drop_eq_getElem_cons (by omega)]
  unfold row
  rw [getD_lt (by omega)]
theorem take_snoc {st : PSt} {gs : List Addr} (e : gs.length = st.regs.length) {i : Nat} (hi : i < gs.length) : st.regs.take (i + 1) = st.regs.take i ++ [row st i] := by
  rw [List.take_add_one]
  unfold row
  rw [getD_lt (by omega), List.getElem?_eq_getElem (by omega)]
  rfl
theorem flat_take {l : List (List PyData)} (i : Nat) : (l.take i).flatten.length ≤ l.flatten.length := by
  have : l.flatten = (l.take i).flatten ++ (l.drop i).flatten := by rw [← List.flatten_append, List.take_append_drop]
  rw [this, List.length_append]; omega
theorem cal_held (S : SrcM K C "_held" "Plain._held" st_Plain_held ["self"]) (T : Txt K mg) (TT : TTxt K C) : CalM P w K mg base CX0 1 C "_held" ["self"] (SpW K (D_held C)) := by
  have sc := sc_Plain_held
  refine S.cal (k := 0) sc (SpW.len fun ds h P z => by obtain ⟨_, _, _, rfl, _⟩ := z; rfl) (fun f cdv A outer s H vs Q E hr h => ⟨_, (pss_cons (ps_set (i := 1) sc.nd rfl (by first | exact Or.inl rfl | exact Or.inr rfl) (pe_ref (pe_callTy (k_list_of (K := K) rfl) (by rfl) T.n_list (by decide +kernel) (pa_cons (k_fld (K := K) rfl (pv 0) rfl) pa_nil))))
  (pss_cons (ps_for PassesOwn.never rfl (k_pi_list (K := K) rfl (k_fld (K := K) rfl (pv 0) rfl)) (pg_name (i := 2) sc.nd rfl (by first | exact Or.inl rfl | exact Or.inr rfl)) (pss_one (ps_expr (k_extend (K := K) rfl (pv 1) (pa_cons (pv 2) pa_nil)))))
  (pss_one (ps_ret (pv 1))))), h.enter fun ds lh P hD => ?_⟩)
  obtain ⟨st, p, Sk, rfl, A0, W, hk⟩ := hD
  have hsz := W.size
  simp [A0.a, A0.r, TT.cl, TT.n2, qv]
  intro q hq
  have lx : Lx lh (up lh q (.lst st.roots)) := Lx.new hq
  simp [lx _ _ A0.a, lx _ _ A0.g, TT.cl, TT.n3, lv]
  refine forL_run (fun ds ρ h => ∃ (i : Nat) (o2 : Option PyData), i ≤ p.gs.length ∧ ds = (p.gs.drop i).map (fun x => rf x) ∧ ρ = [some (rf p.a), some (rf q), o2] ∧ Lx lh h ∧ h q = some (.lst (st.roots ++ (st.regs.take i).flatten))) ?_ ?_ ⟨0, none, Nat.zero_le _, by simp, rfl, lx, by simp⟩
  · rintro d ds ρ h ⟨i, o2, hi, e, rfl, ex, hq2⟩
    rcases Nat.lt_or_ge i p.gs.length with hl | hl
    · rw [List.drop_eq_getElem_cons hl] at e
      rw [List.map_cons] at e
      cases e
      refine ⟨by simp [ex _ _ A0.g], fun F hF => ?_⟩
      have h3 := ex _ _ (A0.gr i hl)
      have hb : (st.regs.take (i + 1)).flatten.length ≤ st.regs.flatten.length := flat_take _
      have ts := take_snoc A0.gl hl
      simp [hq2, h3, lv]
      refine ⟨?_, hF _ _ ⟨i + 1, _, hl, by simp, rfl, ex.put hq, ?_⟩⟩
      · rw [ts] at hb
        simp at hb hsz ⊢
        omega
      · rw [up_same, ts]; simp
    · rw [List.drop_of_length_le hl, List.map_nil] at e; cases e
  · rintro ρ h ⟨i, o2, hi, e, rfl, ex, hq2⟩
    have : p.gs.length ≤ i := by
      rcases Nat.lt_or_ge i p.gs.length with hl | hl
      · rw [List.drop_eq_getElem_cons hl, List.map_cons] at e; cases e
      · exact hl
    refine ⟨by simp [ex _ _ A0.g], ?_⟩
    simp
    refine hk q h ex hq ?_
    rw [hq2, List.take_of_length_le (by rw [← A0.gl]; exact this)]
    rfl
end
end K37
set_option Elab.async false
set_option linter.all false
set_option maxRecDepth 100000
set_option maxHeartbeats 4000000
set_option synthInstance.maxHeartbeats 1000000
set_option synthInstance.maxSize 1000000
namespace K37
open PySem PySem.Spec PyProof.Rows L2 Evl Pd Wl
def bfs (look : Int → List PyData) : Nat → List (List PyData) → List Int → List Int
  | 0, _, f => f
  | _ + 1, [], f => f
  | n + 1, c :: cs, f => bfs look n (cs ++ ((scan c f).drop f.length).map look) (scan c f)
theorem bfs_go {look : Int → List PyData} : ∀ {n j : Nat} {f : List Int}, j ≤ f.length → bfs look n ((f.drop j).map look) f = go look n j f
  | 0, _, _, _ => by simp [bfs, go]
  | n + 1, j, f, hj => by
    rcases Nat.lt_or_ge j f.length with hl | hl
    · rw [List.drop_eq_getElem_cons hl, List.map_cons]
      unfold bfs go
      rw [List.getElem?_eq_getElem hl]
      simp only
      obtain ⟨t, e⟩ := @scan_pre (look f[j]) f
      have hl2 : j + 1 ≤ (scan (look f[j]) f).length := by rw [e, List.length_append]; omega
      rw [← bfs_go hl2, ← List.map_append]
      congr 2
      rw [e, List.drop_left, List.drop_append_of_le_length (by omega)]
    · rw [List.drop_of_length_le hl]
      unfold bfs go
      rw [List.getElem?_eq_none hl]
      rfl
theorem bfs_met {st : PSt} : bfs st.look 1003 [held st] [] = met st := by
  show bfs st.look 1002 ([] ++ ((scan (held st) []).drop 0).map st.look) (scan (held st) []) = _
  rw [List.nil_append, bfs_go (Nat.zero_le _)]
  rfl
section
variable {P : Program} {w : World} {K : PySem.W.Frag} {mg : Str → Option Value} {base : Heap} {C : Addr}
def D_met (C : Addr) (ds : List PyData) (h : Lh) (P : Wv) : Prop := ∃ (st : PSt) (p : Pl) (S : List Int), ds = [rf p.a] ∧ PlainK C st p S h ∧ Clo st S ∧
  ∀ q h', Lx h h' → h q = none → h' q = some (.lst ((met st).map .int)) → P (rf q) h'
theorem cal_met (S : SrcM K C "_met" "Plain._met" st_Plain_met ["self"]) (T : Txt K mg) (TT : TTxt K C) (M__held : CalM P w K mg base CX0 1 C "_held" ["self"] (SpW K (D_held C))) : CalM P w K mg base CX0 2 C "_met" ["self"] (SpW K (D_met C)) := by
  have sc := sc_Plain_met
  refine S.cal (k := 1) sc (SpW.len fun ds h P z => by obtain ⟨_, _, _, rfl, _⟩ := z; rfl) (fun f cdv A outer s H vs Q E hr h => ⟨_, (pss_cons (ps_set (i := 1) sc.nd rfl (by first | exact Or.inl rfl | exact Or.inr rfl) (pe_ref (pe_lst pa_nil)))
  (pss_cons (ps_set (i := 2) sc.nd rfl (by first | exact Or.inl rfl | exact Or.inr rfl) (pe_callTy0 (k_set0 (w := w) rfl) (by rfl) T.n_set (by decide +kernel)))
  (pss_cons (ps_set (i := 3) sc.nd rfl (by first | exact Or.inl rfl | exact Or.inr rfl) (pe_ref (pe_lst (pa_cons (pe_calM0 M__held TT.cl (hr.mono (by first | decide | omega)) pass0 (pv 0)) pa_nil))))
  (pss_cons (ps_while PassesOwn.never (pt_cmpR (k_neL0 (K := K) rfl (hr.units)) (pv 3) (pe_lst pa_nil) (nomark _)) (pss_one (ps_for PassesOwn.never rfl (k_pi_list (K := K) rfl (k_pop (K := K) rfl (pv 3) (pa_cons pe_int pa_nil))) (pg_name (i := 4) sc.nd rfl (by first | exact Or.inl rfl | exact Or.inr rfl)) (pss_one (ps_if (PW.pt (pw_and (pt_val (pe_callB (k_isi (K := K) rfl) (by rfl) T.n_isinstance (by decide +kernel) (pa_cons (pv 4) (pa_cons (pe_bltn (v := .ty "tuple") (by rfl) T.n_tuple (by decide +kernel) rfl) pa_nil)))) (pw_and1 (pt_cmpR (k_snotin (w := w) rfl) (pe_ix (k_ix_tup (K := K) rfl) (pv 4) pe_int (fun _ _ => rfl)) (pv 2) (by rfl))))) (pss_cons (ps_expr (k_sadd (w := w) rfl (pv 2) (pa_cons (pe_ix (k_ix_tup (K := K) rfl) (pv 4) pe_int (fun _ _ => rfl)) pa_nil)))
  (pss_cons (ps_expr (k_append (K := K) rfl (pv 1) (pa_cons (pe_ix (k_ix_tup (K := K) rfl) (pv 4) pe_int (fun _ _ => rfl)) pa_nil)))
  (pss_one (ps_expr (k_append (K := K) rfl (pv 3) (pa_cons (pe_dget (hu_of hr) (k_fld (K := K) rfl (pv 0) rfl) (pe_ix (k_ix_tup (K := K) rfl) (pv 4) pe_int (fun _ _ => rfl)) (fun _ _ => rfl)) pa_nil)))))) pss_nil)))))
  (pss_one (ps_ret (pv 1))))))), h.enter fun ds lh P hD => ?_⟩)
  obtain ⟨st, p, Sk, rfl, A0, Cl, hk⟩ := hD
  simp
  intro qf hqf qk hqk
  have nfk : qf ≠ qk := fun z => by subst z; rw [up_same] at hqk; cases hqk
  rw [up_ne nfk.symm] at hqk
  have lx : Lx lh (up (up lh qf (.lst [])) qk (.set w qk [])) := ((Lx.refl lh).put hqf).put hqk
  simp [lx _ _ A0.a]
  refine ⟨st, p, Sk, rfl, A0.ex lx, Cl.wf, fun q0 h1 lx1 hq0 h0 qw hqw hqw1 => ?_⟩
  have ef := lx1 qf (.lst []) (by rw [up_ne nfk, up_same])
  have ek := lx1 qk (.set w qk []) (by rw [up_same])
  have lx2 : Lx lh h1 := lx.trans lx1
  have nwf : qw ≠ qf := fun z => by subst z; rw [ef] at hqw1; cases hqw1
  have nwk : qw ≠ qk := fun z => by subst z; rw [ek] at hqw1; cases hqw1
  have nw0 : q0 ≠ qw := fun z => by subst z; rw [h0] at hqw1; cases hqw1
  have n0f : q0 ≠ qf := fun z => by subst z; rw [up_ne nfk, up_same] at hq0; cases hq0
  have n0k : q0 ≠ qk := fun z => by subst z; rw [up_same] at hq0; cases hq0
  have hw0 : lh qw = none := lx2.nn hqw1
  have nin : ∀ {x o}, lh x = some o → x ≠ qf ∧ x ≠ qk ∧ x ≠ qw := fun {x o} e => ⟨fun z => (by subst z; rw [hqf] at e; cases e), fun z => (by subst z; rw [hqk] at e; cases e), fun z => (by subst z; rw [hw0] at e; cases e)⟩
  refine wWhile_run (fun n ρ h => ∃ (pd : List (Addr × List PyData)) (f : List Int) (o4 : Option PyData), ρ = [some (rf p.a), some (rf qf), some (rf qk), some (rf qw), o4] ∧ Lx lh h ∧ h qf = some (.lst (f.map .int)) ∧ h qk = some (.set w qk f) ∧ h qw = some (.lst (pd.map fun x => rf x.1)) ∧
    (∀ x ∈ pd, h x.1 = some (.lst x.2) ∧ x.1 ≠ qf ∧ x.1 ≠ qk ∧ x.1 ≠ qw ∧ Rin (· ∈ Sk) x.2 ∧ ∀ v ∈ x.2, OkV st.count v) ∧ f.Nodup ∧ (∀ k ∈ f, k ∈ Sk) ∧ bfs st.look n (pd.map (·.2)) f = met st ∧ n + f.length + 1 = 1003 + pd.length ∧ n ≤ 1003) 1003
    ⟨[(q0, held st)], [], none, rfl, lx2.put hw0, by rw [up_ne nwf.symm]; exact ef, by rw [up_ne nwk.symm]; exact ek, by rw [up_same]; rfl, fun x hx => by
      cases List.mem_singleton.mp hx
      exact ⟨by rw [up_ne nw0]; exact h0, n0f, n0k, nw0, Cl.hd, fun v hv => .inl (Cl.wf.held v hv)⟩, List.nodup_nil, fun k hk => (List.not_mem_nil hk).elim, bfs_met, rfl, Nat.le_refl _⟩ ?_
  clear h0 hq0 lx1 lx2 lx ef ek hqw hqw1 nw0 n0f n0k q0 h1
  rintro n ρ h ⟨pd, f, o4, rfl, ex, ef, ek, ew, hpd, fnd, fS, hb, hn, hn2⟩ F hF
  have fl : f.length ≤ 1000 := Nat.le_trans (len_le fnd fS) Cl.len
  cases pd with
  | nil =>
    simp [ew, lv]
    have : f = met st := by
      rw [← hb]
      cases n <;> rfl
    subst this
    exact hk qf h ex hqf ef
  | cons x0 pd =>
    obtain ⟨n, rfl⟩ : ∃ m, n = m + 1 := ⟨n - 1, by simp at hn; omega⟩
    obtain ⟨hx0, x1, x2, x3, x4, x5⟩ := hpd x0 (by simp)
    simp [ew, lv, seqIndex?]
    refine ⟨x0.2, by rw [up_ne x3, hx0], ?_⟩
    let pn : List Int → List (Addr × List PyData) := fun f' => pd ++ (f'.drop f.length).map fun k => (p.ca k, st.look k)
    refine forL_run (fun ds ρ h => ∃ (dn : List PyData) (o4 : Option PyData), x0.2 = dn ++ ds ∧ ρ = [some (rf p.a), some (rf qf), some (rf qk), some (rf qw), o4] ∧ Lx lh h ∧ h qf = some (.lst ((scan dn f).map .int)) ∧ h qk = some (.set w qk (scan dn f)) ∧ h qw = some (.lst ((pn (scan dn f)).map fun x => rf x.1)) ∧
      ∀ x ∈ x0 :: pd, h x.1 = some (.lst x.2)) ?_ ?_ ⟨[], o4, rfl, rfl, ex.put hw0, by rw [up_ne nwf.symm]; exact ef, by rw [up_ne nwk.symm]; exact ek, by rw [up_same]; simp [pn], fun x hx => by
        obtain ⟨q1, _, _, q4, _⟩ := hpd x hx
        rw [up_ne q4]; exact q1⟩
    · rintro d ds ρ h ⟨dn, o4, e, rfl, ex, ef, ek, ew, hp⟩
      refine ⟨by rw [hp x0 (by simp)], fun F hF => ?_⟩
      have hd := x5 d (by rw [e]; simp)
      have hd2 := x4 d (by rw [e]; simp)
      have fnd2 : (scan dn f).Nodup := scan_nodup fnd
      have fS2 : ∀ k ∈ scan dn f, k ∈ Sk := scan_in (fun v hv => x4 v (by rw [e]; simp [hv])) fS
      have fl2 : (scan dn f).length ≤ 1000 := Nat.le_trans (len_le fnd2 fS2) Cl.len
      have next : scan (dn ++ [d]) f = add1 (scan dn f) d := by rw [scan_append]; rfl
      rcases hd with (rfl | ⟨m, rfl, km⟩) | ⟨i, rfl⟩
      · simp
        refine hF _ _ ⟨dn ++ [.none], _, by rw [e]; simp, rfl, ex, ?_⟩
        rw [next]
        exact ⟨ef, ek, ew, hp⟩
      · have hm : m ∈ Sk := hd2 m rfl
        simp [ek]
        refine wCond.p (fun c => ?_) fun c => ?_
        · have c' : m ∈ scan dn f := by simpa using c
          have nx2 : add1 (scan dn f) (ref m) = scan dn f := by simp [add1, c']
          refine hF _ _ ⟨dn ++ [ref m], _, by rw [e]; simp, rfl, ex, ?_⟩
          rw [next, nx2]
          exact ⟨ef, ek, ew, hp⟩
        · have c' : m ∉ scan dn f := by simpa using c
          have nx2 : add1 (scan dn f) (ref m) = scan dn f ++ [m] := by simp [add1, c']
          have fl3 : (scan dn f).length + 1 ≤ 1000 := by
            have := len_le (f := scan dn f ++ [m]) (ks := Sk) (List.nodup_append.mpr ⟨fnd2, by simp, fun a ha b hb => by cases List.mem_singleton.mp hb; exact fun z => c' (z ▸ ha)⟩) (fun k hk => (List.mem_append.mp hk).elim (fS2 k) fun q => by cases List.mem_singleton.mp q; exact hm)
            rw [List.length_append] at this
            exact Nat.le_trans this Cl.len
          obtain ⟨t, et⟩ := @scan_pre dn f
          have pl2 : pn (scan dn f ++ [m]) = pn (scan dn f) ++ [(p.ca m, st.look m)] := by
            simp only [pn, et, List.append_assoc, List.drop_left, List.map_append, List.map_cons, List.map_nil]
          have hmc := A0.oc m hm
          have lpd : pd.length ≤ 1003 := by simp at hn; omega
          have e1 := nin A0.a
          have e2 := nin A0.o
          have e3 := nin hmc
          have ew' := ew
          have c2 := ex _ _ A0.a
          have c3 := ex _ _ A0.o
          have ef' := ef
          simp [ek, c', up_ne nfk, up_ne nwf, up_ne nwk, up_ne e1.1, up_ne e1.2.1, up_ne e2.1, up_ne e2.2.1, ef, ew, ex _ _ A0.a, ex _ _ A0.o, TT.cl, TT.n4, A0.val hm]
          refine ⟨by omega, by omega, ?_, hF _ _ ⟨dn ++ [ref m], _, by rw [e]; simp, rfl, ((ex.put hqk).put hqf).put hw0, ?_⟩⟩
          · simp only [pn, List.length_append, List.length_map, List.length_drop]; omega
          · rw [next, nx2, pl2]
            refine ⟨by rw [up_ne nwf.symm, up_same]; simp, by rw [up_ne nwk.symm, up_ne nfk.symm, up_same], by rw [up_same]; simp, fun x hx => ?_⟩
            obtain ⟨q1, q2, q3, q4, _⟩ := hpd x hx
            rw [up_ne q4, up_ne q2, up_ne q3]; exact hp x hx
      · simp
        refine hF _ _ ⟨dn ++ [.int i], _, by rw [e]; simp, rfl, ex, ?_⟩
        rw [next]
        exact ⟨ef, ek, ew, hp⟩
    · rintro ρ h ⟨dn, o4, e, rfl, ex, ef, ek, ew, hp⟩
      simp at e
      subst e
      refine ⟨by rw [hp x0 (by simp)], ?_⟩
      have fnd2 : (scan x0.2 f).Nodup := scan_nodup fnd
      have fS2 : ∀ k ∈ scan x0.2 f, k ∈ Sk := scan_in x4 fS
      obtain ⟨t, et⟩ := @scan_pre x0.2 f
      refine hF n _ _ (Nat.lt_succ_self n) ⟨pn (scan x0.2 f), scan x0.2 f, o4, rfl, ex, ef, ek, ew, fun x hx => ?_, fnd2, fS2, ?_, ?_, by omega⟩
      · rcases List.mem_append.mp hx with hx | hx
        · obtain ⟨_, q2, q3, q4, q5⟩ := hpd x (by simp [hx])
          exact ⟨hp x (by simp [hx]), q2, q3, q4, q5⟩
        · obtain ⟨k, hk', rfl⟩ := List.mem_map.mp hx
          have hkS := fS2 k (List.mem_of_mem_drop hk')
          have hc := A0.oc k hkS
          obtain ⟨q2, q3, q4⟩ := nin hc
          exact ⟨ex _ _ hc, q2, q3, q4, Cl.lk k hkS, (Cl.wf.look k (Cl.kn k hkS)).2⟩
      · rw [← hb]
        show _ = bfs st.look n (pd.map (·.2) ++ ((scan x0.2 f).drop f.length).map st.look) (scan x0.2 f)
        congr 1
        simp only [pn, List.map_append, List.map_map]
        rfl
      · simp only [pn, List.length_append, List.length_map, List.length_drop]
        simp at hn
        rw [et]
        simp
        omega
end
end K37
set_option Elab.async false
set_option linter.all false
set_option maxRecDepth 100000
set_option maxHeartbeats 1000000
namespace K37
open PySem PySem.Spec PyProof.Rows L2 Evl Pd Wl
/-! pictures -/
/-- what may stand in something that is perhaps a picture -/
inductive SV : PyData → Prop
  | non : SV .none
  | bl (b : Bool) : SV (.bool b)
  | int (i : Int) : SV (.int i)
  | str (s : Str) : PyData.strOk s = true → SV (.str s)
  | nil : SV (.tuple [])
  | pi (s : Str) (i : Int) : PyData.strOk s = true → SV (.tuple [.str s, .int i])
  | pb (s : Str) (b : Bool) : PyData.strOk s = true → SV (.tuple [.str s, .bool b])
def shown (n : Nat) (wn : Bool) : PyData → Bool
  | .none => true
  | .int i => wn && decide (absI i < 1000000000000000000)
  | .tuple [.str s, .int i] => decide (s = "object") && (decide (0 ≤ i) && decide (i < (n : Int)))
  | _ => false
def cellOk (n : Nat) : PyData → Bool
  | .tuple ds => !ds.isEmpty && ds.all (shown n true)
  | _ => false
abbrev lookL (os : List (List PyData)) : Int → List PyData := fun k => os.getD k.toNat []
def metL (rs : List PyData) (os : List (List PyData)) : List Int := go (lookL os) 1002 0 (scan rs [])
def rangeI (n : Nat) : List Int := (List.range n).map fun (i : Nat) => (i : Int)
def tupsOf : PyData → List PyData
  | .tuple ds => ds
  | _ => []
def chk : PyData → PyData → Bool
  | .tuple rs, .tuple os => os.all (cellOk os.length) && rs.all (shown os.length false) && decide (metL rs (os.map tupsOf) = rangeI os.length)
  | _, _ => false
/-- a value of a picture with n objects -/
def PV (n : Nat) (v : PyData) : Prop := v = .none ∨ (∃ i, v = .int i ∧ absI i < 1000000000000000000) ∨ ∃ i : Int, v = ref i ∧ 0 ≤ i ∧ i < n
theorem shown_pv {n : Nat} {wn : Bool} {v : PyData} (h : shown n wn v = true) : PV n v := by
  unfold shown at h
  split at h
  · exact .inl rfl
  · rw [Bool.and_eq_true] at h
    exact .inr (.inl ⟨_, rfl, of_decide_eq_true h.2⟩)
  · rw [Bool.and_eq_true, Bool.and_eq_true] at h
    have hs := of_decide_eq_true h.1
    subst hs
    exact .inr (.inr ⟨_, rfl, of_decide_eq_true h.2.1, of_decide_eq_true h.2.2⟩)
  · cases h
theorem PV.shown {n : Nat} {v : PyData} (h : PV n v) : shown n true v = true := by
  rcases h with rfl | ⟨i, rfl, hi⟩ | ⟨i, rfl, h0, h1⟩
  · rfl
  · show (true && decide _) = true
    rw [decide_eq_true hi]; rfl
  · show (decide (("object" : Str) = "object") && (decide (0 ≤ i) && decide (i < (n : Int)))) = true
    rw [decide_eq_true rfl, decide_eq_true h0, decide_eq_true h1]; rfl
theorem bfs_L {rs : List PyData} {os : List (List PyData)} : bfs (lookL os) 1003 [rs] [] = metL rs os := by
  show bfs (lookL os) 1002 ([] ++ ((scan rs []).drop 0).map (lookL os)) (scan rs []) = _
  rw [List.nil_append, bfs_go (Nat.zero_le _)]
  rfl
theorem scan_kn {n : Nat} {c : List PyData} {f : List Int} (hc : ∀ v ∈ c, PV n v) (hf : ∀ k ∈ f, Kn n k) : ∀ k ∈ scan c f, Kn n k := scan_in (fun v hv m e => by
  rcases hc v hv with rfl | ⟨i, rfl, _⟩ | ⟨i, rfl, h0, h1⟩
  · cases e
  · cases e
  · cases e; exact ⟨h0, h1⟩) hf
end K37
set_option Elab.async false
set_option linter.all false
set_option maxRecDepth 100000
set_option maxHeartbeats 4000000
/-! Xu: str(n). -/
namespace Pd
open PySem PySem.Spec PyProof.Rows L2 Evl
theorem k_notInT {X : Cx} {K : PySem.W.Frag} (hK : X.K = K) (hu : X.A.units + 64 < cLine) : OpR X (compareOp .NotIn) (rInT K true) := by
  subst hK
  intro pins s σ H x y v u Q I rx ry h
  obtain ⟨d, ds, hd, he, sd, se, q⟩ := h
  obtain ⟨as, r1⟩ := Dp.reads I d x v hd rx
  obtain ⟨bs, r2⟩ := Dp.reads I (.tuple ds) y u he ry
  exact SeqAt.notIn_tuple_reads r2 r1 (SeqAt.canLay_of_shaped se) (SeqAt.canLay_of_shaped sd) (room_in_shapedT se hu) ⟨.bl _, H, I, rfl, q⟩
end Pd
namespace Wl
open PySem PySem.Spec PyProof.Rows L2 Evl Pd
section
variable {K : PySem.W.Frag} {XX : XP}
@[simp] def fStrI (ds : List PyData) (h : Lh) (P : Wv) : Prop := ∃ i, ds = [.int i] ∧ i.natAbs.log2 < 1920 ∧ P (.str (Str.ofString (toString i))) h
instance : RCW K (fun xs H Q => ∃ i, xs = [V.int i] ∧ i.natAbs.log2 < 1920 ∧ Q (V.str (Str.ofString (toString i))) H) fStrI := ⟨fun S r ⟨i, e, l, p⟩ k => by
  subst e; obtain ⟨v, rfl, iv⟩ := r.one; rw [iv.i]; exact ⟨i, rfl, l, k.at S (.str _) p⟩⟩
@[simp] def wLstRg1 (a : WE) : WA := fun ρ h P => a ρ h fun x h1 => ∃ i : Int, x = .int i ∧ -16777216 ≤ i ∧ i ≤ 16777216 ∧ P (rgD 0 i) h1
instance {ta : TE} {a : WE} [A : RE K XX ta a] : RN K XX (tLstRg (tRg1 ta)) (wLstRg1 a) := ⟨fun {N σ H ρ h P Q} S E p k =>
  A.run S E p fun v d H1 h1 t1 S1 r1 ⟨i, e1, b1, b2, p1⟩ => by
    subst e1
    exact ⟨i, r1.i, ⟨by omega, by omega, by omega, by omega, by omega⟩, fun q hq => (k.tr t1).new S1 hq (rgRls 0 i) p1⟩⟩
theorem SpW.or {D1 D2 : List PyData → Lh → Wv → Prop} {vs : List V} {H : Hp} {Q : VK} {E : XK} (h : SpW K (fun ds h P => D1 ds h P ∨ D2 ds h P) vs H Q E) : SpW K D1 vs H Q E ∨ SpW K D2 vs H Q E := by
  obtain ⟨N, h, ds, P, X, S, r, d | d, k⟩ := h
  · exact .inl ⟨N, h, ds, P, X, S, r, d, k⟩
  · exact .inr ⟨N, h, ds, P, X, S, r, d, k⟩
end
end Wl
set_option Elab.async false
set_option linter.all false
set_option maxRecDepth 100000
set_option maxHeartbeats 2000000
/-! Xn: a promise without exceptions of one with them -/
namespace Wl
open PySem PySem.Spec PyProof.Rows L2 Evl Pd
section
variable {P : Program} {w : World} {K : PySem.W.Frag} {mg : Str → Option Value} {base : Heap}
theorem FnOk.noX {k : Nat} {f : Addr} {fd : FuncData} {ps : List Str} {D : DX} (F : FnOk P w K mg base (L2.CX P w) k f fd ps (SpX K D)) : FnOk P w K mg base CX0 k f fd ps (SpW K fun ds h P => D ds h P fun _ _ _ => False) := by
  have go : ∀ vs H Q (E : XK), SpX K (fun ds h P _ => D ds h P fun _ _ _ => False) vs H Q E → SpX K D vs H Q fun _ _ _ => False := by
    rintro vs H Q E ⟨N, h, ds, P, X, S, r, d, k⟩
    exact ⟨N, h, ds, P, _, Sx.noX S.toSim, r, d, fun v d' H' h' t S' r' p => k v d' H' h' t (S.to t S'.toSim) r' p⟩
  refine ⟨fun vs H Q E h => F.len _ _ _ _ (go _ _ _ _ h), fun A outer s H args us vs Q E hr he hb hv hs => codeAny_mono (F.run A outer s H args us vs Q _ hr he hb hv (go _ _ _ _ hs)) fun r s' hq => ?_⟩
  cases r with
  | ok fl => cases fl <;> exact hq
  | error e =>
    obtain ⟨_, _, _, _, _, _, _, _, _, _, _, _, z⟩ := hq
    exact z.elim
theorem _root_.Pd.Cal.noX {k : Nat} {x : Str} {ps : List Str} {D : DX} (C : Cal P w K mg base (L2.CX P w) k x ps (SpX K D)) : Cal P w K mg base CX0 k x ps (SpW K fun ds h P => D ds h P fun _ _ _ => False) := by
  obtain ⟨f, fd, h1, h2, h3, F⟩ := C.ex
  exact ⟨f, fd, h1, h2, h3, FnOk.noX F⟩
theorem _root_.Pd.CalM.noX {k : Nat} {C : Addr} {m : Str} {ps : List Str} {D : DX} (M : CalM P w K mg base (L2.CX P w) k C m ps (SpX K D)) : CalM P w K mg base CX0 k C m ps (SpW K fun ds h P => D ds h P fun _ _ _ => False) := by
  obtain ⟨f, fd, h1, h2, F⟩ := M.ex
  exact ⟨f, fd, h1, h2, FnOk.noX F⟩
end
end Wl
set_option Elab.async false
set_option linter.all false
set_option maxRecDepth 100000
set_option maxHeartbeats 4000000
set_option synthInstance.maxHeartbeats 1000000
set_option synthInstance.maxSize 1000000
namespace K37
open PySem PySem.Spec PyProof.Rows L2 Evl Pd Wl
theorem SV.rd {v : PyData} (h : SV v) : Rd0 v := by
  cases h with
  | non => exact ⟨0, by decide, .non 0⟩
  | bl b => exact ⟨0, by decide, .bool 0 b⟩
  | int i => exact ⟨0, by decide, .int 0 i⟩
  | str s hs => exact ⟨0, by decide, .str 0 s hs⟩
  | nil => exact ⟨1, by decide, .tup 0 _ (by simp) fun d hd => by cases hd⟩
  | pi s i hs => exact ⟨1, by decide, .tup 0 _ (by simp) fun d hd => by
      simp only [List.mem_cons, List.not_mem_nil, or_false] at hd
      rcases hd with rfl | rfl
      · exact .str 0 s hs
      · exact .int 0 i⟩
  | pb s b hs => exact ⟨1, by decide, .tup 0 _ (by simp) fun d hd => by
      simp only [List.mem_cons, List.not_mem_nil, or_false] at hd
      rcases hd with rfl | rfl
      · exact .str 0 s hs
      · exact .bool 0 b⟩
section
variable {P : Program} {w : World} {K : PySem.W.Frag} {mg : Str → Option Value} {base : Heap}
def D_shown (ds : List PyData) (h : Lh) (P : Wv) : Prop := ∃ (v : PyData) (n : Nat) (wn : Bool), ds = [v, .int n, .bool wn] ∧ SV v ∧ P (.bool (shown n wn v)) h
theorem cal_shown (S : Src K mg "is_shown" st_is_shown ["value", "count", "with_numbers"]) (T : Txt K mg) (C_is_integer : Cal P w K mg base CX0 1 "is_integer" ["value"] (SpW K D_is_integer)) (C_is_count : Cal P w K mg base CX0 2 "is_count" ["value"] (SpW K D_is_count)) : Cal P w K mg base CX0 3 "is_shown" ["value", "count", "with_numbers"] (SpW K D_shown) := by
  have sc := sc_is_shown
  refine S.cal (k := 2) sc (SpW.len fun ds h P z => by obtain ⟨_, _, _, rfl, _⟩ := z; rfl) (fun f cdv A outer s H vs Q E hr h => ⟨_, (pss_cons (ps_if (pt_cmpR op_isN (pv 0) pe_non (nomark _)) (pss_one (ps_ret pe_bl)) pss_nil)
  (pss_cons (ps_if (pt_val (pe_cal C_is_integer (hr.mono (by first | decide | omega)) rfl pass0 (pa_cons (pv 0) pa_nil))) (pss_one (ps_ret (pe_and (pv 2) (pe_one (pe_cmpR op_lt (pe_callB call_abs (by rfl) T.n_abs (by decide +kernel) (pa_cons (pv 0) pa_nil)) (pe_gl rfl T.c_LIMIT) (nomark _)))))) pss_nil)
  (pss_cons (ps_if (PW.pt (pw_or (pt_not (pt_val (pe_callB (k_isi (K := K) rfl) (by rfl) T.n_isinstance (by decide +kernel) (pa_cons (pv 0) (pa_cons (pe_bltn (v := .ty "tuple") (by rfl) T.n_tuple (by decide +kernel) rfl) pa_nil))))) (pw_or (pt_cmpR op_ne (pe_callB (k_len_seq (K := K) rfl) (by rfl) T.n_len PySem.boot_len (pa_cons (pv 0) pa_nil)) pe_int (nomark _)) (pw_or1 (pt_cmpR op_ne (pe_ix (k_ix_tup (K := K) rfl) (pv 0) pe_int (fun _ _ => rfl)) (pe_gl rfl T.c_WORD_walks) (nomark _)))))) (pss_one (ps_ret pe_bl)) pss_nil)
  (pss_one (ps_ret (pe_and (pe_cal C_is_count (hr.mono (by first | decide | omega)) rfl pass0 (pa_cons (pe_ix (k_ix_tup (K := K) rfl) (pv 0) pe_int (fun _ _ => rfl)) pa_nil)) (pe_one (pe_cmpR op_lt (pe_ix (k_ix_tup (K := K) rfl) (pv 0) pe_int (fun _ _ => rfl)) (pv 1) (nomark _))))))))), h.enter fun ds lh P hD => ?_⟩)
  obtain ⟨v, n, wn, rfl, hv, hk⟩ := hD
  have rx := hv.rd
  cases hv with
  | non => simp; exact hk
  | bl b => simpa [D_is_integer, isInt, rx, shown] using hk
  | int i =>
    simp [D_is_integer, isInt, rx]
    by_cases c : (if i < 0 then -i else i) < 1000000000000000000 <;> simp [shown, absI, c] at hk ⊢ <;> exact hk
  | str s hs => simpa [D_is_integer, isInt, rx, shown] using hk
  | nil => simpa [D_is_integer, isInt, rx, shown] using hk
  | pi s i hs =>
    have e0 : ∀ x y : PyData, atI [x, y] 0 = some x := fun _ _ => rfl
    have e1 : ∀ x y : PyData, atI [x, y] 1 = some y := fun _ _ => rfl
    have ri : Rd0 (.int i) := ⟨0, by decide, .int 0 i⟩
    simp [D_is_integer, isInt, rx, e0, e1, D_is_count, ri, isCount]
    exact hk
  | pb s b hs =>
    have e0 : ∀ x y : PyData, atI [x, y] 0 = some x := fun _ _ => rfl
    have e1 : ∀ x y : PyData, atI [x, y] 1 = some y := fun _ _ => rfl
    have ri : Rd0 (.bool b) := ⟨0, by decide, .bool 0 b⟩
    simp [D_is_integer, isInt, rx, e0, e1, D_is_count, ri, isCount]
    exact hk
def D_met_from (ds : List PyData) (h : Lh) (P : Wv) : Prop := ∃ (rs : List PyData) (os : List (List PyData)), ds = [.tuple rs, .tuple (os.map PyData.tuple)] ∧ os.length ≤ 900 ∧ (∀ v ∈ rs, PV os.length v) ∧ (∀ o ∈ os, ∀ v ∈ o, PV os.length v) ∧ ∀ q h', Lx h h' → h q = none → h' q = some (.lst ((metL rs os).map .int)) → P (rf q) h'
theorem cal_met_from (S : Src K mg "met_from" st_met_from ["roots", "objects"]) (T : Txt K mg) : Cal P w K mg base CX0 1 "met_from" ["roots", "objects"] (SpW K D_met_from) := by
  have sc := sc_met_from
  refine S.cal (k := 0) sc (SpW.len fun ds h P z => by obtain ⟨_, _, rfl, _⟩ := z; rfl) (fun f cdv A outer s H vs Q E hr h => ⟨_, (pss_cons (ps_set (i := 2) sc.nd rfl (by first | exact Or.inl rfl | exact Or.inr rfl) (pe_ref (pe_lst pa_nil)))
  (pss_cons (ps_set (i := 3) sc.nd rfl (by first | exact Or.inl rfl | exact Or.inr rfl) (pe_ref (pe_lst (pa_cons (pv 0) pa_nil))))
  (pss_cons (ps_while PassesOwn.never (pt_cmpR (k_neL0 (K := K) rfl (hr.units)) (pv 3) (pe_lst pa_nil) (nomark _)) (pss_one (ps_for PassesOwn.never rfl (k_pi_tup (K := K) rfl (k_pop (K := K) rfl (pv 3) (pa_cons pe_int pa_nil))) (pg_name (i := 4) sc.nd rfl (by first | exact Or.inl rfl | exact Or.inr rfl)) (pss_one (ps_if (PW.pt (pw_and (pt_val (pe_callB (k_isi (K := K) rfl) (by rfl) T.n_isinstance (by decide +kernel) (pa_cons (pv 4) (pa_cons (pe_bltn (v := .ty "tuple") (by rfl) T.n_tuple (by decide +kernel) rfl) pa_nil)))) (pw_and1 (pt_cmpR (k_notIn_seq (K := K) rfl) (pe_ix (k_ix_tup (K := K) rfl) (pv 4) pe_int (fun _ _ => rfl)) (pv 2) (by rfl))))) (pss_cons (ps_expr (k_append (K := K) rfl (pv 2) (pa_cons (pe_ix (k_ix_tup (K := K) rfl) (pv 4) pe_int (fun _ _ => rfl)) pa_nil)))
  (pss_one (ps_expr (k_append (K := K) rfl (pv 3) (pa_cons (pe_ix (k_ix_tup (K := K) rfl) (pv 1) (pe_ix (k_ix_tup (K := K) rfl) (pv 4) pe_int (fun _ _ => rfl)) (fun _ _ => rfl)) pa_nil))))) pss_nil)))))
  (pss_one (ps_ret (pv 2)))))), h.enter fun ds lh P hD => ?_⟩)
  obtain ⟨rs, os, rfl, hl, hr1, ho, hk⟩ := hD
  have hlo : ∀ k, ∀ v ∈ lookL os k, PV os.length v := fun k v hv => by
    unfold lookL at hv
    rcases Nat.lt_or_ge k.toNat os.length with c | c
    · rw [getD_lt c] at hv; exact ho _ (List.getElem_mem c) v hv
    · rw [getD_ge c] at hv; cases hv
  simp
  intro qf hqf qw hqw
  have nwf : qw ≠ qf := fun z => by subst z; rw [up_same] at hqw; cases hqw
  have hw0 : lh qw = none := by rw [up_ne nwf] at hqw; exact hqw
  refine wWhile_run (fun n ρ h => ∃ (pd : List (List PyData)) (f : List Int) (o4 : Option PyData), ρ = [some (.tuple rs), some (.tuple (os.map PyData.tuple)), some (rf qf), some (rf qw), o4] ∧ Lx lh h ∧ h qf = some (.lst (f.map .int)) ∧ h qw = some (.lst (pd.map PyData.tuple)) ∧
      (∀ x ∈ pd, ∀ v ∈ x, PV os.length v) ∧ f.Nodup ∧ (∀ k ∈ f, Kn os.length k) ∧ bfs (lookL os) n pd f = metL rs os ∧ n + f.length + 1 = 1003 + pd.length ∧ n ≤ 1003) 1003
      ⟨[rs], [], none, rfl, (Lx.new hqf).put hw0, by rw [up_ne nwf.symm, up_same]; rfl, by rw [up_same]; rfl, fun x hx v hv => by
        cases List.mem_singleton.mp hx
        exact hr1 v hv, List.nodup_nil, fun k hk => (List.not_mem_nil hk).elim, bfs_L, rfl, Nat.le_refl _⟩ ?_
  rintro n ρ h ⟨pd, f, o4, rfl, ex, ef, ew, hpd, fnd, fS, hb, hn, hn2⟩ F hF
  have fl : f.length ≤ os.length := len_kn fnd fS
  cases pd with
  | nil =>
    simp [ew, lv]
    have : f = metL rs os := by
      rw [← hb]
      cases n <;> rfl
    subst this
    exact hk qf h ex hqf ef
  | cons x0 pd =>
    obtain ⟨n, rfl⟩ : ∃ m, n = m + 1 := ⟨n - 1, by simp at hn; omega⟩
    have x5 := hpd x0 (by simp)
    simp [ew, lv, seqIndex?]
    let pn : List Int → List (List PyData) := fun f' => pd ++ (f'.drop f.length).map (lookL os)
    refine forL_run (fun ds ρ h => ∃ (dn : List PyData) (o4 : Option PyData), x0 = dn ++ ds ∧ ρ = [some (.tuple rs), some (.tuple (os.map PyData.tuple)), some (rf qf), some (rf qw), o4] ∧ Lx lh h ∧ h qf = some (.lst ((scan dn f).map .int)) ∧ h qw = some (.lst ((pn (scan dn f)).map PyData.tuple))) ?_ ?_
      ⟨[], o4, rfl, rfl, ex.put hw0, by rw [up_ne nwf.symm]; exact ef, by rw [up_same]; simp [pn]⟩
    · rintro d ds ρ h ⟨dn, o4, e, rfl, ex, ef, ew⟩
      refine ⟨trivial, fun F hF => ?_⟩
      have hd := x5 d (by rw [e]; simp)
      have fnd2 : (scan dn f).Nodup := scan_nodup fnd
      have fS2 : ∀ k ∈ scan dn f, Kn os.length k := scan_kn (fun v hv => x5 v (by rw [e]; simp [hv])) fS
      have fl2 : (scan dn f).length ≤ os.length := len_kn fnd2 fS2
      have next : scan (dn ++ [d]) f = add1 (scan dn f) d := by rw [scan_append]; rfl
      rcases hd with rfl | ⟨i, rfl, _⟩ | ⟨m, rfl, m0, m1⟩
      · simp
        refine hF _ _ ⟨dn ++ [.none], _, by rw [e]; simp, rfl, ex, ?_⟩
        rw [next]
        exact ⟨ef, ew⟩
      · simp
        refine hF _ _ ⟨dn ++ [.int i], _, by rw [e]; simp, rfl, ex, ?_⟩
        rw [next]
        exact ⟨ef, ew⟩
      · have em : atI (os.map PyData.tuple) m = some (.tuple (lookL os m)) := by
          obtain ⟨q, rfl⟩ : ∃ q : Nat, m = q := ⟨m.toNat, by omega⟩
          have hq : q < os.length := by omega
          exact atI_nat (by rw [List.getElem?_map, List.getElem?_eq_getElem hq]; unfold lookL; rw [Int.toNat_natCast, getD_lt hq]; rfl)
        have a1 : atI [PyData.str (Str.ofString "object"), PyData.int m] 1 = some (.int m) := rfl
        simp [ef, lv, qv, a1]
        refine wCond.p (fun c => ?_) fun c => ?_
        · have c' : m ∈ scan dn f := by simpa using c
          have nx2 : add1 (scan dn f) (ref m) = scan dn f := by simp [add1, c']
          refine hF _ _ ⟨dn ++ [ref m], _, by rw [e]; simp, rfl, ex, ?_⟩
          rw [next, nx2]
          exact ⟨ef, ew⟩
        · have c' : m ∉ scan dn f := by simpa using c
          have nx2 : add1 (scan dn f) (ref m) = scan dn f ++ [m] := by simp [add1, c']
          obtain ⟨t, et⟩ := @scan_pre dn f
          have pl2 : pn (scan dn f ++ [m]) = pn (scan dn f) ++ [lookL os m] := by
            simp only [pn, et, List.append_assoc, List.drop_left, List.map_append, List.map_cons, List.map_nil]
          have lpd : pd.length ≤ 1003 := by simp at hn; omega
          simp [up_ne nwf, ef, ew, em, a1, lv]
          refine ⟨by omega, ?_, hF _ _ ⟨dn ++ [ref m], _, by rw [e]; simp, rfl, (ex.put hqf).put hw0, ?_⟩⟩
          · simp only [pn, List.length_append, List.length_map, List.length_drop]; omega
          · rw [next, nx2, pl2]
            exact ⟨by rw [up_ne nwf.symm, up_same]; simp, by rw [up_same]; simp [lookL]⟩
    · rintro ρ h ⟨dn, o4, e, rfl, ex, ef, ew⟩
      simp at e
      subst e
      refine ⟨trivial, ?_⟩
      have fnd2 : (scan x0 f).Nodup := scan_nodup fnd
      have fS2 : ∀ k ∈ scan x0 f, Kn os.length k := scan_kn x5 fS
      obtain ⟨t, et⟩ := @scan_pre x0 f
      refine hF n _ _ (Nat.lt_succ_self n) ⟨pn (scan x0 f), scan x0 f, o4, rfl, ex, ef, ew, fun x hx => ?_, fnd2, fS2, ?_, ?_, by omega⟩
      · rcases List.mem_append.mp hx with hx | hx
        · exact hpd x (by simp [hx])
        · obtain ⟨k, hk', rfl⟩ := List.mem_map.mp hx
          exact hlo k
      · rw [← hb]; rfl
      · simp only [pn, List.length_append, List.length_map, List.length_drop]
        simp at hn
        rw [et]
        simp
        omega
end
end K37
set_option Elab.async false
set_option linter.all false
set_option maxRecDepth 100000
set_option maxHeartbeats 1000000
/-! Sm: two stores whose objects have other numbers. No program. -/
namespace K37
open PySem PySem.Spec PyProof.Rows L2 Evl Pd Wl
abbrev Rel := Int → Int → Prop
structure Bij (R : Rel) : Prop where
  l : ∀ a b b', R a b → R a b' → b = b'
  r : ∀ a a' b, R a b → R a' b → a = a'
inductive VR (R : Rel) : PyData → PyData → Prop
  | non : VR R .none .none
  | int (i : Int) : VR R (.int i) (.int i)
  | ref {a b : Int} : R a b → VR R (ref a) (ref b)
theorem VR.mono {R R' : Rel} (f : ∀ a b, R a b → R' a b) {v w : PyData} (h : VR R v w) : VR R' v w := by
  cases h with
  | non => exact .non
  | int i => exact .int i
  | ref h => exact .ref (f _ _ h)
/-- place by place -/
def VRs (R : Rel) (xs ys : List PyData) : Prop := xs.length = ys.length ∧ ∀ i : Nat, VR R (xs.getD i .none) (ys.getD i .none)
theorem VRs.mono {R R' : Rel} (f : ∀ a b, R a b → R' a b) {xs ys : List PyData} (h : VRs R xs ys) : VRs R' xs ys := ⟨h.1, fun i => (h.2 i).mono f⟩
theorem VRs.nil {R : Rel} : VRs R [] [] := ⟨rfl, fun i => by simp; exact .non⟩
theorem VRs.tail {R : Rel} {x y : PyData} {xs ys : List PyData} (h : VRs R (x :: xs) (y :: ys)) : VRs R xs ys := ⟨by have := h.1; simpa using this, fun i => by simpa using h.2 (i + 1)⟩
theorem VRs.head {R : Rel} {x y : PyData} {xs ys : List PyData} (h : VRs R (x :: xs) (y :: ys)) : VR R x y := by simpa using h.2 0
theorem VRs.cons {R : Rel} {x y : PyData} {xs ys : List PyData} (a : VR R x y) (h : VRs R xs ys) : VRs R (x :: xs) (y :: ys) := ⟨by simp [h.1], fun i => by
  cases i with
  | zero => simpa using a
  | succ i => simpa using h.2 i⟩
theorem VRs.append {R : Rel} : ∀ {xs ys us vs : List PyData}, VRs R xs ys → VRs R us vs → VRs R (xs ++ us) (ys ++ vs)
  | [], [], _, _, _, k => k
  | [], y :: ys, _, _, h, _ => by have := h.1; simp at this
  | x :: xs, [], _, _, h, _ => by have := h.1; simp at this
  | x :: xs, y :: ys, _, _, h, k => .cons h.head (VRs.append h.tail k)
theorem VRs.set {R : Rel} {xs ys : List PyData} (h : VRs R xs ys) (i : Nat) {v w : PyData} (k : VR R v w) : VRs R (xs.set i v) (ys.set i w) := ⟨by simp [h.1], fun j => by
  simp only [List.getD, List.getElem?_set]
  by_cases c : i = j
  · subst c
    rw [if_pos rfl, if_pos rfl, h.1]
    split
    · simpa using k
    · simpa using VR.non
  · rw [if_neg c, if_neg c]
    exact h.2 j⟩
theorem VRs.rep {R : Rel} (n : Nat) : VRs R (List.replicate n .none) (List.replicate n .none) := ⟨rfl, fun i => by
  have : (List.replicate n PyData.none).getD i .none = .none := by
    simp only [List.getD, List.getElem?_replicate]
    split <;> rfl
  rw [this]; exact .non⟩
/-- lists of numbers, place by place -/
def FR (R : Rel) (f g : List Int) : Prop := f.length = g.length ∧ ∀ (i : Nat) (a b : Int), f[i]? = some a → g[i]? = some b → R a b
section
variable {R : Rel} (B : Bij R)
include B
theorem FR.mem {f g : List Int} (h : FR R f g) {a b : Int} (ab : R a b) : a ∈ f ↔ b ∈ g := by
  constructor
  · intro m
    obtain ⟨i, hi, e⟩ := List.getElem_of_mem m
    have hj : i < g.length := by rw [← h.1]; exact hi
    have := h.2 i a g[i] (by rw [List.getElem?_eq_getElem hi, e]) (by rw [List.getElem?_eq_getElem hj])
    rw [B.l a b _ ab this]
    exact List.getElem_mem hj
  · intro m
    obtain ⟨i, hi, e⟩ := List.getElem_of_mem m
    have hj : i < f.length := by rw [h.1]; exact hi
    have := h.2 i f[i] b (by rw [List.getElem?_eq_getElem hj]) (by rw [List.getElem?_eq_getElem hi, e])
    rw [B.r a _ b ab this]
    exact List.getElem_mem hj
omit B in
theorem FR.snoc {f g : List Int} (h : FR R f g) {a b : Int} (ab : R a b) : FR R (f ++ [a]) (g ++ [b]) := ⟨by simp [h.1], fun i x y e1 e2 => by
  rcases Nat.lt_trichotomy i f.length with c | c | c
  · rw [List.getElem?_append_left c] at e1
    rw [List.getElem?_append_left (by rw [← h.1]; exact c)] at e2
    exact h.2 i x y e1 e2
  · rw [List.getElem?_append_right (by omega)] at e1
    rw [List.getElem?_append_right (by rw [← h.1]; omega)] at e2
    rw [c] at e1
    rw [← h.1, c] at e2
    simp at e1 e2
    rw [← e1, ← e2]; exact ab
  · rw [List.getElem?_append_right (by omega)] at e1
    rw [List.getElem?_eq_none (by simp; omega)] at e1
    cases e1⟩
theorem FR.add1 {f g : List Int} (h : FR R f g) {v w : PyData} (k : VR R v w) : FR R (add1 f v) (add1 g w) := by
  cases k with
  | non => exact h
  | int i => exact h
  | @ref a b ab =>
    unfold K37.add1
    simp only [refOf_ref]
    by_cases c : a ∈ f
    · rw [if_pos c, if_pos ((FR.mem B h ab).mp c)]; exact h
    · rw [if_neg c, if_neg (fun z => c ((FR.mem B h ab).mpr z))]; exact h.snoc ab
theorem FR.scan : ∀ {xs ys : List PyData} {f g : List Int}, VRs R xs ys → FR R f g → FR R (scan xs f) (scan ys g)
  | [], [], _, _, _, h => h
  | [], y :: ys, _, _, k, _ => by have := k.1; simp at this
  | x :: xs, [], _, _, k, _ => by have := k.1; simp at this
  | x :: xs, y :: ys, f, g, k, h => by
    rw [scan_cons, scan_cons]
    exact FR.scan k.tail (FR.add1 B h k.head)
theorem FR.go {c d : Int → List PyData} (hc : ∀ a b, R a b → VRs R (c a) (d b)) : ∀ {n j : Nat} {f g : List Int}, FR R f g → FR R (go c n j f) (go d n j g)
  | 0, _, _, _, h => h
  | n + 1, j, f, g, h => by
    unfold K37.go
    rcases Nat.lt_or_ge j f.length with c1 | c1
    · have c2 : j < g.length := by rw [← h.1]; exact c1
      rw [List.getElem?_eq_getElem c1, List.getElem?_eq_getElem c2]
      have := h.2 j f[j] g[j] (by rw [List.getElem?_eq_getElem c1]) (by rw [List.getElem?_eq_getElem c2])
      exact FR.go hc (FR.scan B (hc _ _ this) h)
    · have c2 : g.length ≤ j := by rw [← h.1]; exact c1
      rw [List.getElem?_eq_none c1, List.getElem?_eq_none c2]
      exact h
theorem FR.ix {f g : List Int} (nf : f.Nodup) (ng : g.Nodup) (h : FR R f g) {a b : Int} (ab : R a b) : f.idxOf a = g.idxOf b := by
  by_cases c : a ∈ f
  · have l1 : f.idxOf a < f.length := List.idxOf_lt_length_of_mem c
    have l2 : f.idxOf a < g.length := by rw [← h.1]; exact l1
    have e1 : f[f.idxOf a] = a := List.getElem_idxOf l1
    have r := h.2 (f.idxOf a) a g[f.idxOf a] (by rw [List.getElem?_eq_getElem l1, e1]) (by rw [List.getElem?_eq_getElem l2])
    have eb := B.l a b _ ab r
    have l3 : g.idxOf b < g.length := List.idxOf_lt_length_of_mem ((FR.mem B h ab).mp c)
    have e3 : g[g.idxOf b] = b := List.getElem_idxOf l3
    have p := List.pairwise_iff_getElem.mp ng
    rcases Nat.lt_trichotomy (f.idxOf a) (g.idxOf b) with q | q | q
    · exact absurd (eb.symm.trans e3.symm) (p _ _ l2 l3 q)
    · exact q
    · exact absurd (e3.trans eb) (p _ _ l3 l2 q)
  · rw [List.idxOf_eq_length c, List.idxOf_eq_length (fun z => c ((FR.mem B h ab).mpr z)), h.1]
end
structure Sm (R : Rel) (s t : PSt) : Prop where
  bij : Bij R
  cells : s.cells = t.cells
  slots : s.slots = t.slots
  roots : VRs R s.roots t.roots
  rl : s.regs.length = t.regs.length
  regs : ∀ i : Nat, VRs R (row s i) (row t i)
  look : ∀ a b, R a b → VRs R (s.look a) (t.look b)
  kn : ∀ a b, R a b → Kn s.count a ∧ Kn t.count b
section
variable {R : Rel} {s t : PSt}
theorem flat_vrs {R : Rel} : ∀ {xs ys : List (List PyData)}, xs.length = ys.length → (∀ i : Nat, VRs R (xs.getD i []) (ys.getD i [])) → VRs R xs.flatten ys.flatten
  | [], [], _, _ => .nil
  | [], y :: ys, h, _ => by simp at h
  | x :: xs, [], h, _ => by simp at h
  | x :: xs, y :: ys, h, k => by
    rw [List.flatten_cons, List.flatten_cons]
    exact VRs.append (by simpa using k 0) (flat_vrs (by simpa using h) fun i => by simpa using k (i + 1))
theorem Sm.held (S : Sm R s t) : VRs R (held s) (held t) := VRs.append S.roots (flat_vrs S.rl S.regs)
theorem Sm.met (S : Sm R s t) : FR R (met s) (met t) := FR.go S.bij S.look (FR.scan S.bij S.held ⟨rfl, fun i a b e _ => by simp at e⟩)
theorem Sm.len (S : Sm R s t) : (K37.met s).length = (K37.met t).length := S.met.1
theorem map_FR {α : Type} {f g : List Int} {F G : Int → α} (h : FR R f g) (k : ∀ a b, R a b → F a = G b) : f.map F = g.map G := by
  refine List.ext_getElem (by simp [h.1]) fun i h1 h2 => ?_
  rw [List.getElem_map, List.getElem_map]
  have l1 : i < f.length := by simpa using h1
  have l2 : i < g.length := by simpa using h2
  exact k _ _ (h.2 i _ _ (List.getElem?_eq_getElem l1) (List.getElem?_eq_getElem l2))
theorem Sm.used (S : Sm R s t) : used s = used t := by
  unfold K37.used
  rw [map_FR S.met fun a b ab => by rw [(S.look a b ab).1]]
theorem Sm.fits (S : Sm R s t) (n : Int) : fits s n = fits t n := by
  unfold K37.fits
  rw [S.used, S.len, S.cells, S.slots]
theorem Sm.nmd (S : Sm R s t) {v w : PyData} (h : VR R v w) : nmd s v = nmd t w := by
  cases h with
  | non => rfl
  | int i => rfl
  | ref ab =>
    unfold K37.nmd ixOf
    simp only [refOf_ref]
    rw [FR.ix S.bij met_nodup met_nodup S.met ab]
theorem Sm.nms (S : Sm R s t) {xs ys : List PyData} (h : VRs R xs ys) : nms s xs = nms t ys := by
  unfold K37.nms
  congr 1
  refine List.ext_getElem (by simp [h.1]) fun i h1 h2 => ?_
  rw [List.getElem_map, List.getElem_map]
  have l1 : i < xs.length := by simpa using h1
  have l2 : i < ys.length := by simpa using h2
  have := h.2 i
  rw [getD_lt l1, getD_lt l2] at this
  exact S.nmd this
theorem Sm.pict (S : Sm R s t) : pict s = pict t := by
  have e1 : s.regs.map (K37.nms s) = t.regs.map (K37.nms t) := by
    refine List.ext_getElem (by rw [List.length_map, List.length_map, S.rl]) fun i h1 h2 => ?_
    rw [List.getElem_map, List.getElem_map]
    have l1 : i < s.regs.length := by simpa using h1
    have l2 : i < t.regs.length := by simpa using h2
    have := S.regs i
    unfold row at this
    rw [getD_lt l1, getD_lt l2] at this
    exact S.nms this
  unfold K37.pict
  rw [S.nms S.roots, map_FR S.met fun a b ab => S.nms (S.look a b ab), e1]
/-! ### steps -/
theorem Sm.rv (S : Sm R s t) (i : Nat) (r : Int) : VR R (rv s i r) (rv t i r) := (S.regs i).2 r.toNat
theorem Sm.cell (S : Sm R s t) {a b : Int} (ab : R a b) (k : Int) : VR R (cell s a k) (cell t b k) := (S.look a b ab).2 k.toNat
theorem row_setR (st : PSt) (i j : Nat) (r : Int) (v : PyData) : row (setR st i r v) j = if j = i ∧ i < st.regs.length then (row st i).set r.toNat v else row st j := by
  unfold row setR
  simp only [List.getD, List.getElem?_set]
  by_cases c : i = j
  · subst c
    by_cases l : i < st.regs.length
    · rw [if_pos rfl, if_pos l, if_pos ⟨rfl, l⟩]; rfl
    · rw [if_pos rfl, if_neg l, if_neg (fun z => l z.2), List.getElem?_eq_none (by omega)]
  · rw [if_neg c, if_neg (fun z => c z.1.symm)]
theorem Sm.setR (S : Sm R s t) (i : Nat) (r : Int) {v w : PyData} (h : VR R v w) : Sm R (setR s i r v) (setR t i r w) := ⟨S.bij, S.cells, S.slots, S.roots, by show (s.regs.set _ _).length = (t.regs.set _ _).length; rw [List.length_set, List.length_set, S.rl], fun j => by
  rw [row_setR, row_setR]
  by_cases c : j = i ∧ i < s.regs.length
  · rw [if_pos c, if_pos ⟨c.1, by rw [← S.rl]; exact c.2⟩]
    exact (S.regs i).set _ h
  · rw [if_neg c, if_neg (fun z => c ⟨z.1, by rw [S.rl]; exact z.2⟩)]
    exact S.regs j, S.look, S.kn⟩
theorem Sm.setRoot (S : Sm R s t) (i : Int) {v w : PyData} (h : VR R v w) : Sm R (setRoot s i v) (setRoot t i w) := ⟨S.bij, S.cells, S.slots, S.roots.set _ h, S.rl, S.regs, S.look, S.kn⟩
theorem Sm.setC (S : Sm R s t) {a b : Int} (ab : R a b) (k : Int) {v w : PyData} (h : VR R v w) : Sm R (setC s a k v) (setC t b k w) := ⟨S.bij, S.cells, S.slots, S.roots, S.rl, S.regs, fun x y xy => by
  show VRs R (if x = a then (s.look a).set k.toNat v else s.look x) (if y = b then (t.look b).set k.toNat w else t.look y)
  by_cases c : x = a
  · subst c
    have := S.bij.l _ _ _ ab xy
    rw [if_pos rfl, if_pos this.symm]
    exact (S.look _ _ ab).set _ h
  · rw [if_neg c, if_neg (fun z => c (by subst z; exact S.bij.r _ _ _ xy ab))]
    exact S.look x y xy, S.kn⟩
/-- one more object in both -/
def Rn (R : Rel) (s t : PSt) : Rel := fun a b => R a b ∨ (a = (s.count : Int) ∧ b = (t.count : Int))
theorem Sm.newO (S : Sm R s t) (n : Int) : Sm (Rn R s t) (newO s n) (newO t n) := by
  have sub : ∀ a b, R a b → Rn R s t a b := fun a b h => .inl h
  have old : ∀ a b, R a b → a ≠ (s.count : Int) ∧ b ≠ (t.count : Int) := fun a b h => by
    obtain ⟨⟨h1, h2⟩, h3, h4⟩ := S.kn a b h
    exact ⟨by omega, by omega⟩
  refine ⟨⟨fun a b b' h1 h2 => ?_, fun a a' b h1 h2 => ?_⟩, S.cells, S.slots, S.roots.mono sub, S.rl, fun i => (S.regs i).mono sub, fun a b h => ?_, fun a b h => ?_⟩
  · rcases h1 with h1 | h1 <;> rcases h2 with h2 | h2
    · exact S.bij.l _ _ _ h1 h2
    · exact absurd h2.1 (old _ _ h1).1
    · exact absurd h1.1 (old _ _ h2).1
    · rw [h1.2, h2.2]
  · rcases h1 with h1 | h1 <;> rcases h2 with h2 | h2
    · exact S.bij.r _ _ _ h1 h2
    · exact absurd h2.2 (old _ _ h1).2
    · exact absurd h1.2 (old _ _ h2).2
    · rw [h1.1, h2.1]
  · show VRs (Rn R s t) (if a = (s.count : Int) then _ else s.look a) (if b = (t.count : Int) then _ else t.look b)
    rcases h with h | ⟨rfl, rfl⟩
    · rw [if_neg (old _ _ h).1, if_neg (old _ _ h).2]
      exact (S.look a b h).mono sub
    · rw [if_pos rfl, if_pos rfl]
      exact .rep _
  · show Kn (s.count + 1) a ∧ Kn (t.count + 1) b
    rcases h with h | ⟨rfl, rfl⟩
    · obtain ⟨⟨h1, h2⟩, h3, h4⟩ := S.kn a b h
      exact ⟨⟨h1, by omega⟩, h3, by omega⟩
    · exact ⟨⟨by omega, by omega⟩, by omega, by omega⟩
theorem VR.eqv (B : Bij R) {v w v' w' : PyData} (h : VR R v w) (k : VR R v' w') : PyData.eqv v v' = PyData.eqv w w' := by
  cases h with
  | non => cases k <;> simp [PyData.eqv]
  | int i => cases k <;> simp [PyData.eqv]
  | ref ab =>
    cases k with
    | non => simp [PyData.eqv]
    | int j => simp [PyData.eqv]
    | ref cd =>
      rename_i a b c d
      have q : (a == c) = (b == d) := by
        by_cases e : a = c
        · subst e
          have := B.l _ _ _ ab cd
          subst this
          simp
        · have n : b ≠ d := fun z => e (by subst z; exact B.r _ _ _ ab cd)
          rw [beq_eq_false_iff_ne.mpr e, beq_eq_false_iff_ne.mpr n]
      simp only [PyData.eqv, PyData.eqvAll, q]
theorem Sm.onO (S : Sm R s t) {v w : PyData} (h : VR R v w) (k : Int) {f g : Int → PyData × PSt} (hf : ∀ a b, R a b → (f a).1 = (g b).1 ∧ ∃ R', Sm R' (f a).2 (g b).2 ∧ ∀ x y, R x y → R' x y) : (onO s v k f).1 = (onO t w k g).1 ∧ ∃ R', Sm R' (onO s v k f).2 (onO t w k g).2 ∧ ∀ x y, R x y → R' x y := by
  unfold K37.onO
  cases h with
  | non => exact ⟨rfl, R, S, fun _ _ h => h⟩
  | int i => exact ⟨rfl, R, S, fun _ _ h => h⟩
  | ref ab =>
    simp only [refOf_ref]
    rw [(S.look _ _ ab).1]
    split
    · exact ⟨rfl, R, S, fun _ _ h => h⟩
    · exact hf _ _ ab
theorem VR.onN {v w : PyData} (h : VR R v w) : VR R (onN v) (onN w) := by
  cases h with
  | non => exact .non
  | int i => exact .non
  | ref ab => exact .ref ab
theorem VR.onI {v w : PyData} (h : VR R v w) : onI v = onI w := by cases h <;> rfl
/-- alike stores do alike -/
theorem Sm.step (S : Sm R s t) (i : Nat) (op : Op) : (step s i op).1 = (step t i op).1 ∧ ∃ R', Sm R' (step s i op).2 (step t i op).2 ∧ ∀ x y, R x y → R' x y := by
  have same : ∀ {s' t' : PSt}, Sm R s' t' → ∃ R', Sm R' s' t' ∧ ∀ x y, R x y → R' x y := fun h => ⟨R, h, fun _ _ h => h⟩
  cases op with
  | put r n =>
    rw [step_put, step_put, S.fits]
    split
    · exact ⟨rfl, _, Sm.setR (S.newO n) i r (.ref (.inr ⟨rfl, rfl⟩)), fun _ _ h => .inl h⟩
    · exact ⟨rfl, same S⟩
  | get r k => exact S.onO (S.rv i r) k fun a b ab => ⟨by rw [(S.cell ab k).onI], same S⟩
  | set r k x => exact S.onO (S.rv i r) k fun a b ab => ⟨rfl, same (S.setC ab k (.int x))⟩
  | load q r k => exact S.onO (S.rv i r) k fun a b ab => ⟨rfl, same (S.setR i q (S.cell ab k).onN)⟩
  | store r k q => exact S.onO (S.rv i r) k fun a b ab => ⟨rfl, same (S.setC ab k (S.rv i q))⟩
  | root j r => exact ⟨rfl, same (S.setRoot j (S.rv i r))⟩
  | take r j => exact ⟨rfl, same (S.setR i r (S.roots.2 j.toNat))⟩
  | copy r q => exact ⟨rfl, same (S.setR i r (S.rv i q))⟩
  | drop r => exact ⟨rfl, same (S.setR i r .non)⟩
  | same r q => exact ⟨by show PyData.tuple _ = .tuple _; rw [VR.eqv S.bij (S.rv i r) (S.rv i q)], same S⟩
  | size r =>
    rw [step_size, step_size]
    have h := S.rv i r
    cases e : K37.rv s i r <;> cases e2 : K37.rv t i r <;> rw [e, e2] at h <;> cases h
    · exact ⟨rfl, same S⟩
    · exact ⟨rfl, same S⟩
    · rename_i ab
      show (PyData.tuple _ = .tuple _) ∧ _
      rw [(S.look _ _ ab).1]
      exact ⟨rfl, same S⟩
/-- a store is like itself -/
theorem Sm.refl (W : Wf s) : Sm (fun a b => a = b ∧ Kn s.count a) s s := by
  have okr : ∀ v, OkR s.count v → VR (fun a b => a = b ∧ Kn s.count a) v v := fun v h => by
    rcases h with rfl | ⟨n, rfl, k⟩
    · exact .non
    · exact .ref ⟨rfl, k⟩
  have okv : ∀ v, OkV s.count v → VR (fun a b => a = b ∧ Kn s.count a) v v := fun v h => by
    rcases h with h | ⟨i, rfl⟩
    · exact okr v h
    · exact .int i
  exact ⟨⟨fun a b b' h k => h.1.symm.trans k.1, fun a a' b h k => h.1.trans k.1.symm⟩, rfl, rfl, ⟨rfl, fun i => okr _ (getD_or W.roots (.inl rfl))⟩, rfl, fun i => ⟨rfl, fun j => okr _ (getD_or (W.row i) (.inl rfl))⟩, fun a b h => by
    obtain ⟨rfl, k⟩ := h
    exact ⟨rfl, fun i => okv _ (getD_or (W.look a k).2 (.inl (.inl rfl)))⟩, fun a b h => by
    obtain ⟨rfl, k⟩ := h
    exact ⟨k, k⟩⟩
end
end K37
set_option Elab.async false
set_option linter.all false
set_option maxRecDepth 100000
set_option maxHeartbeats 1000000
namespace K37
open PySem PySem.Spec PyProof.Rows L2 Evl Pd Wl
/-! renaming by the order in which objects are met -/
def ixI (M : List Int) (n : Int) : Int := ((M.idxOf n : Nat) : Int)
def renV (M : List Int) (v : PyData) : PyData := match refOf v with
  | some n => ref (ixI M n)
  | none => v
/-- none, a number or a reference among .. -/
def QV (S : Int → Prop) (v : PyData) : Prop := v = .none ∨ (∃ i, v = .int i) ∨ ∃ n, v = ref n ∧ S n
theorem QV.rin {S : Int → Prop} {c : List PyData} (h : ∀ v ∈ c, QV S v) : Rin S c := fun v hv n e => by
  rcases h v hv with rfl | ⟨i, rfl⟩ | ⟨m, rfl, hm⟩
  · cases e
  · cases e
  · cases e; exact hm
theorem QV.of {S T : Int → Prop} {c : List PyData} (h : ∀ v ∈ c, QV S v) (r : Rin T c) : ∀ v ∈ c, QV T v := fun v hv => by
  rcases h v hv with rfl | ⟨i, rfl⟩ | ⟨m, rfl, hm⟩
  · exact .inl rfl
  · exact .inr (.inl ⟨i, rfl⟩)
  · exact .inr (.inr ⟨m, rfl, r _ hv m rfl⟩)
theorem vrs_map {R : Rel} {f : PyData → PyData} {c : List PyData} (h : ∀ v ∈ c, VR R v (f v)) : VRs R c (c.map f) := ⟨(List.length_map _).symm, fun i => by
  rcases Nat.lt_or_ge i c.length with q | q
  · rw [getD_lt q, getD_lt (by rw [List.length_map]; exact q), List.getElem_map]
    exact h _ (List.getElem_mem q)
  · rw [getD_ge q, getD_ge (by rw [List.length_map]; exact q)]
    exact .non⟩
structure Pic (rs : List PyData) (os : List (List PyData)) : Prop where
  r : ∀ v ∈ rs, v = .none ∨ ∃ i : Int, v = ref i ∧ 0 ≤ i ∧ i < os.length
  o : ∀ c ∈ os, c ≠ [] ∧ ∀ v ∈ c, PV os.length v
  m : metL rs os = rangeI os.length
theorem idx_at {M : List Int} (nd : M.Nodup) {i : Nat} (h : i < M.length) : ixI M M[i] = (i : Int) := by
  unfold ixI
  rw [List.Nodup.idxOf_getElem nd i h]
theorem ren_met {n : Nat} {look : Int → List PyData} {ps : List PyData} (hn : n ≤ 1000) (hp : ∀ v ∈ ps, QV (Kn n) v) (hl : ∀ k, Kn n k → ∀ v ∈ look k, QV (Kn n) v) {M : List Int} (eM : go look 1002 0 (scan ps []) = M) :
    metL (ps.map (renV M)) (M.map fun k => (look k).map (renV M)) = rangeI M.length ∧ M.Nodup ∧ (∀ k ∈ M, Kn n k) ∧ (∀ v ∈ ps, QV (· ∈ M) v) ∧ ∀ k ∈ M, ∀ v ∈ look k, QV (· ∈ M) v := by
  have nd : M.Nodup := by rw [← eM]; exact go_nodup (scan_nodup List.nodup_nil)
  have kn : ∀ k ∈ M, Kn n k := by
    rw [← eM]
    exact go_in (fun k hk => QV.rin (hl k hk)) (scan_in (QV.rin hp) fun _ h => absurd h List.not_mem_nil)
  have c0 : Rin (· ∈ M) ps := by
    rw [← eM]
    exact scan_has.mono fun _ => go_sub
  have c1 : ∀ k ∈ M, Rin (· ∈ M) (look k) := by
    rw [← eM]
    exact go_closed (c := n) (fun k hk => QV.rin (hl k hk)) (scan_nodup List.nodup_nil) (scan_in (QV.rin hp) fun _ h => absurd h List.not_mem_nil) (by omega) fun i k hi => by omega
  have hp2 : ∀ v ∈ ps, QV (· ∈ M) v := QV.of hp c0
  have hl2 : ∀ k ∈ M, ∀ v ∈ look k, QV (· ∈ M) v := fun k hk => QV.of (hl k (kn k hk)) (c1 k hk)
  refine ⟨?_, nd, kn, hp2, hl2⟩
  let R : Rel := fun a b => a ∈ M ∧ b = ixI M a
  have B : Bij R := ⟨fun a b b' h h' => by rw [h.2, h'.2], fun a a' b h h' => by
    have e : ixI M a = ixI M a' := by rw [← h.2, ← h'.2]
    unfold ixI at e
    have e2 : M.idxOf a = M.idxOf a' := by omega
    have l1 := List.idxOf_lt_length_iff.mpr h.1
    have l2 := List.idxOf_lt_length_iff.mpr h'.1
    rw [← List.getElem_idxOf l1, ← List.getElem_idxOf l2]
    simp only [e2]⟩
  have vr : ∀ v, QV (· ∈ M) v → VR R v (renV M v) := fun v hv => by
    rcases hv with rfl | ⟨i, rfl⟩ | ⟨m, rfl, hm⟩
    · exact .non
    · exact .int i
    · exact .ref ⟨hm, rfl⟩
  have lk : ∀ a b, R a b → VRs R (look a) (lookL (M.map fun k => (look k).map (renV M)) b) := fun a b ⟨ha, hb⟩ => by
    have l1 := List.idxOf_lt_length_iff.mpr ha
    have e : lookL (M.map fun k => (look k).map (renV M)) b = (look a).map (renV M) := by
      rw [hb]
      unfold lookL ixI
      rw [Int.toNat_natCast, getD_lt (by rw [List.length_map]; exact l1), List.getElem_map, List.getElem_idxOf]
    rw [e]
    exact vrs_map fun v hv => vr v (hl2 a ha v hv)
  have f := FR.go B lk (n := 1002) (j := 0) (FR.scan B (vrs_map fun v hv => vr v (hp2 v hv)) (f := []) (g := []) ⟨rfl, fun i a b e _ => by simp at e⟩)
  rw [eM] at f
  apply List.ext_getElem
  · have := f.1
    unfold metL
    rw [← this]
    simp [rangeI]
  · intro i h1 h2
    have hi : i < M.length := by simpa [rangeI] using h2
    have := f.2 i M[i] _ (List.getElem?_eq_getElem hi) (List.getElem?_eq_getElem h1)
    rw [show (metL (ps.map (renV M)) (M.map fun k => (look k).map (renV M)))[i] = ixI M M[i] from this.2, idx_at nd hi]
    simp [rangeI]
/-! the builder -/
def fillOps (i k : Nat) (v : PyData) : List Op := match v with
  | .none => []
  | .int x => [.load 1 0 i, .set 1 k x]
  | v => match refOf v with
    | some j => [.load 1 0 i, .load 2 0 j, .store 1 k 2]
    | none => []
def putOps (os : List (List PyData)) : Nat → List Op
  | i => match os with
    | [] => []
    | o :: os => .put 1 o.length :: .store 0 i 1 :: putOps os (i + 1)
def cellOps (i : Nat) : List PyData → Nat → List Op
  | [], _ => []
  | v :: vs, k => fillOps i k v ++ cellOps i vs (k + 1)
def objOps : List (List PyData) → Nat → List Op
  | [], _ => []
  | o :: os, i => cellOps i o 0 ++ objOps os (i + 1)
def rootOps : List PyData → Nat → List Op
  | [], _ => []
  | v :: vs, i => (match refOf v with | some j => .load 1 0 j | none => .drop 1) :: .root i 1 :: rootOps vs (i + 1)
def progOf (rs : List PyData) (os : List (List PyData)) : List Op := (if os.isEmpty then [] else [.put 0 os.length]) ++ putOps os 0 ++ objOps os 0 ++ rootOps rs 0 ++ [.drop 0, .drop 1, .drop 2]
inductive RunOk : PSt → List Op → PSt → Prop
  | nil (st : PSt) : RunOk st [] st
  | cons {st : PSt} {op : Op} {l : List Op} {st' : PSt} : (step st 0 op).1 = T1 "ok" → RunOk (step st 0 op).2 l st' → RunOk st (op :: l) st'
theorem RunOk.append {a b c : PSt} {l m : List Op} (h : RunOk a l b) (k : RunOk b m c) : RunOk a (l ++ m) c := by
  induction h with
  | nil => exact k
  | cons e _ ih => exact .cons e (ih k)
theorem RunOk.one {st st' : PSt} {op : Op} (e : step st 0 op = (T1 "ok", st')) : RunOk st [op] st' := .cons (by rw [e]) (by rw [e]; exact .nil _)
end K37
set_option Elab.async false
set_option linter.all false
set_option maxRecDepth 100000
set_option maxHeartbeats 4000000
set_option synthInstance.maxHeartbeats 1000000
set_option synthInstance.maxSize 1000000
namespace K37
open PySem PySem.Spec PyProof.Rows L2 Evl Pd Wl
section
variable {P : Program} {w : World} {K : PySem.W.Frag} {mg : Str → Option Value} {base : Heap} {C : Addr}
def D_used (C : Addr) (ds : List PyData) (h : Lh) (P : Wv) : Prop := ∃ (st : PSt) (p : Pl) (S : List Int), ds = [rf p.a] ∧ PlainK C st p S h ∧ Clo st S ∧
  ∀ h', Lx h h' → P (.int (used st)) h'
def D_fits (C : Addr) (ds : List PyData) (h : Lh) (P : Wv) : Prop := ∃ (st : PSt) (p : Pl) (S : List Int) (s : Int), ds = [rf p.a, .int s] ∧ PlainK C st p S h ∧ Clo st S ∧
  ∀ h', Lx h h' → P (.bool (fits st s)) h'
theorem cal_used (S : SrcM K C "used" "Plain.used" st_Plain_used ["self"]) (T : Txt K mg) (TT : TTxt K C) (M__met : CalM P w K mg base CX0 2 C "_met" ["self"] (SpW K (D_met C))) : CalM P w K mg base CX0 3 C "used" ["self"] (SpW K (D_used C)) := by
  have sc := sc_Plain_used
  refine S.cal (k := 2) sc (SpW.len fun ds h P z => by obtain ⟨_, _, _, rfl, _⟩ := z; rfl) (fun f cdv A outer s H vs Q E hr h => ⟨_, (pss_one (ps_ret (pe_callB (k_sum (K := K) rfl rfl) (by rfl) T.n_sum (by decide +kernel) (pa_cons (pe_lc (own := [("number", 1)]) rfl sc.nd (k_pi_list (K := K) rfl (pe_calM0 M__met TT.cl (hr.mono (by first | decide | omega)) pass0 (pv 0))) (blkOk_by (by first | decide +kernel | kernel_rfl)) (fun _ _ _ _ _ => (pg_name (i := 1) sc.nd rfl (by first | exact Or.inl rfl | exact Or.inr rfl))) (fun _ _ _ _ _ => pts_nil) (fun _ _ _ _ _ => (pe_callB (k_len_seq (K := K) rfl) (by rfl) T.n_len PySem.boot_len (pa_cons (pe_dget (hu_of hr) (k_fld (K := K) rfl (pv 0) rfl) (pv 1) (fun _ _ => rfl)) pa_nil)))) pa_nil)))), h.enter fun ds lh P hD => ?_⟩)
  obtain ⟨st, p, Sk, rfl, A0, Cl, hk⟩ := hD
  simp [A0.a]
  refine ⟨st, p, Sk, rfl, A0, Cl, fun q h' lx hq e => ?_⟩
  simp [e, lv]
  have hl := Cl.wf.metLen
  refine lcL_map (emb := PyData.int) (fun k => .int ((st.look k).length : Int)) (by simp [e]) (by omega) (fun k hk F hF => ?_) ?_
  · have hc := A0.oc k (Cl.met k hk)
    simp [lx _ _ A0.a, lx _ _ A0.o, TT.cl, TT.n4, A0.val (Cl.met k hk), qv, lv, lx _ _ hc]
    exact hF
  · refine ⟨(met st).map fun k => ((st.look k).length : Int), by rw [List.map_map]; rfl, ?_⟩
    exact hk h' lx
theorem cal_fits (S : SrcM K C "fits" "Plain.fits" st_Plain_fits ["self", "size"]) (T : Txt K mg) (TT : TTxt K C) (M__met : CalM P w K mg base CX0 2 C "_met" ["self"] (SpW K (D_met C))) (M_used : CalM P w K mg base CX0 3 C "used" ["self"] (SpW K (D_used C))) : CalM P w K mg base CX0 4 C "fits" ["self", "size"] (SpW K (D_fits C)) := by
  have sc := sc_Plain_fits
  refine S.cal (k := 3) sc (SpW.len fun ds h P z => by obtain ⟨_, _, _, _, rfl, _⟩ := z; rfl) (fun f cdv A outer s H vs Q E hr h => ⟨_, (pss_one (ps_ret (pe_and (pe_cmpR op_le (pe_op op_add (pe_calM0 M_used TT.cl (hr.mono (by first | decide | omega)) pass0 (pv 0)) (pv 1)) (k_fld (K := K) rfl (pv 0) rfl) (nomark _)) (pe_one (pe_cmpR op_lt (pe_callB (k_len_seq (K := K) rfl) (by rfl) T.n_len PySem.boot_len (pa_cons (pe_calM0 M__met TT.cl (hr.mono (by first | decide | omega)) pass0 (pv 0)) pa_nil)) (k_fld (K := K) rfl (pv 0) rfl) (nomark _)))))), h.enter fun ds lh P hD => ?_⟩)
  obtain ⟨st, p, Sk, sz, rfl, A0, Cl, hk⟩ := hD
  simp [A0.a]
  refine ⟨st, p, Sk, rfl, A0, Cl, fun h1 lx => ?_⟩
  simp [lx _ _ A0.a, TT.cl, TT.n0]
  refine wCond.p (fun c => ?_) fun c => ?_
  · refine ⟨st, p, Sk, rfl, A0.ex lx, Cl, fun q h2 lx2 hq e => ?_⟩
    have c' : used st + sz ≤ st.cells := by simpa using c
    simp [e, qv, lv, lx2 _ _ (lx _ _ A0.a), TT.cl, TT.n1]
    have := hk h2 (lx.trans lx2)
    unfold fits at this
    rw [decide_eq_true c', Bool.true_and] at this
    exact this
  · have c' : ¬ used st + sz ≤ st.cells := by simpa using c
    have := hk h1 lx
    unfold fits at this
    rw [decide_eq_false c', Bool.false_and] at this
    simpa using this
end
end K37
set_option Elab.async false
set_option linter.all false
set_option maxRecDepth 100000
set_option maxHeartbeats 4000000
set_option synthInstance.maxHeartbeats 1000000
set_option synthInstance.maxSize 1000000
namespace K37
open PySem PySem.Spec PyProof.Rows L2 Evl Pd Wl
section
variable {P : Program} {w : World} {K : PySem.W.Frag} {mg : Str → Option Value} {base : Heap} {C : Addr}
/-- the dict of names -/
def Nmd (st : PSt) (kvs : List (Key × PyData)) (vs : List PyData) : Prop := ∀ x ∈ vs, ∀ n, refOf x = some n → valD kvs (.inl n) = some (.int (ixOf st n))
def D_named (C : Addr) (ds : List PyData) (h : Lh) (P : Wv) : Prop := ∃ (st : PSt) (a v m : Addr) (vs : List PyData) (kvs : List (Key × PyData)), ds = [rf a, rf v, rf m] ∧ h v = some (.lst vs) ∧ h m = some (.dK kvs) ∧ (∀ x ∈ vs, OkV st.count x) ∧ Nmd st kvs vs ∧ vs.length ≤ 1000 ∧ P (nms st vs) h
theorem cal_named (S : SrcM K C "_named" "Plain._named" st_Plain_named ["self", "values", "names"]) (T : Txt K mg) : CalM P w K mg base CX0 1 C "_named" ["self", "values", "names"] (SpW K (D_named C)) := by
  have sc := sc_Plain_named
  refine S.cal (k := 0) sc (SpW.len fun ds h P z => by obtain ⟨_, _, _, _, _, _, rfl, _⟩ := z; rfl) (fun f cdv A outer s H vs Q E hr h => ⟨_, (pss_one (ps_ret (pe_callTy (k_tuple_of (K := K) rfl) (by rfl) T.n_tuple (by decide +kernel) (pa_cons (pe_lc (own := [("value", 3)]) rfl sc.nd (k_pi_list (K := K) rfl (pv 1)) (blkOk_by (by first | decide +kernel | kernel_rfl)) (fun _ _ _ _ _ => (pg_name (i := 3) sc.nd rfl (by first | exact Or.inl rfl | exact Or.inr rfl))) (fun _ _ _ _ _ => pts_nil) (fun _ _ _ _ _ => (pe_ifExp (pt_val (pe_callB (k_isi (K := K) rfl) (by rfl) T.n_isinstance (by decide +kernel) (pa_cons (pv 3) (pa_cons (pe_bltn (v := .ty "tuple") (by rfl) T.n_tuple (by decide +kernel) rfl) pa_nil)))) (pe_tup (pa_cons (pe_gl rfl T.c_WORD_plain) (pa_cons (pe_dget (hu_of hr) (pv 2) (pe_ix (k_ix_tup (K := K) rfl) (pv 3) pe_int (fun _ _ => rfl)) (fun _ _ => rfl)) pa_nil))) (pv 3)))) pa_nil)))), h.enter fun ds lh P hD => ?_⟩)
  obtain ⟨st, a, v, m, vs, kvs, rfl, hv, hm, hok, hn, hl, hk⟩ := hD
  simp [hv, lv]
  refine lcL_id (nmd st) (by simp [hv]) (by omega) (fun x hx F hF => ?_) ?_
  · rcases hok x hx with (rfl | ⟨n, rfl, kn⟩) | ⟨i, rfl⟩
    · simp; exact hF
    · have := hn _ hx n rfl
      simp [hm, this]
      exact hF
    · simp; exact hF
  · exact hk
theorem valD_num {n : Int} : ∀ {l : List Int} {j : Nat}, n ∈ l → valD ((l.zipIdx j).map fun x => ((.inl x.1 : Key), PyData.int ((x.2 : Nat) : Int))) (.inl n) = some (.int ((j + l.idxOf n : Nat) : Int))
  | [], _, h => by cases h
  | a :: l, j, h => by
    unfold valD
    rw [List.zipIdx_cons, List.map_cons, List.find?_cons]
    by_cases c : a = n
    · subst c; simp
    · have c1 : (Sum.inl a : Key) ≠ .inl n := fun z => c (Sum.inl.inj z)
      have c2 : (a == n) = false := by simpa using c
      simp only [decide_eq_false c1, List.idxOf_cons, c2]
      rcases List.mem_cons.mp h with rfl | h
      · exact absurd rfl c
      · have := valD_num (j := j + 1) h
        unfold valD at this
        rw [this]
        simp only [cond_false]
        congr 2
        omega
theorem numbered_eq : ∀ (l : List Int) (j : Nat), Pd.numbered j (l.map PyData.int) = (l.zipIdx j).map fun x => .tuple [.int ((x.2 : Nat) : Int), .int x.1]
  | [], _ => rfl
  | a :: l, j => by
    rw [List.map_cons, List.zipIdx_cons, List.map_cons, ← numbered_eq l (j + 1)]
    rfl
def D_picture (C : Addr) (ds : List PyData) (h : Lh) (P : Wv) : Prop := ∃ (st : PSt) (p : Pl) (S : List Int), ds = [rf p.a] ∧ PlainK C st p S h ∧ Clo st S ∧
  ∀ h', Lx h h' → P (pict st) h'
theorem cal_picture (S : SrcM K C "picture" "Plain.picture" st_Plain_picture ["self"]) (T : Txt K mg) (TT : TTxt K C) (M__met : CalM P w K mg base CX0 2 C "_met" ["self"] (SpW K (D_met C)))
    (M__named : CalM P w K mg base CX0 1 C "_named" ["self", "values", "names"] (SpW K (D_named C))) : CalM P w K mg base CX0 3 C "picture" ["self"] (SpW K (D_picture C)) := by
  have sc := sc_Plain_picture
  refine S.cal (k := 2) sc (SpW.len fun ds h P z => by obtain ⟨_, _, _, rfl, _⟩ := z; rfl) (fun f cdv A outer s H vs Q E hr h => ⟨_, (pss_cons (ps_set (i := 1) sc.nd rfl (by first | exact Or.inl rfl | exact Or.inr rfl) (pe_calM0 M__met TT.cl (hr.mono (by first | decide | omega)) pass0 (pv 0)))
  (pss_cons (ps_set (i := 2) sc.nd rfl (by first | exact Or.inl rfl | exact Or.inr rfl) (pe_dc (own := [("place", 3), ("number", 4)]) rfl sc.nd (k_pi_enum (K := K) rfl (by rfl) T.n_enumerate (pa_cons (pv 1) pa_nil)) (blkOk_by (by first | decide +kernel | kernel_rfl)) (fun _ _ _ _ _ => (k_pg_tup (K := K) (n := 2) rfl rfl (pgs_cons (pg_name (i := 3) sc.nd rfl (by first | exact Or.inl rfl | exact Or.inr rfl)) (pgs_cons (pg_name (i := 4) sc.nd rfl (by first | exact Or.inl rfl | exact Or.inr rfl)) pgs_nil)))) (fun _ _ _ _ _ => pts_nil) (fun _ _ _ _ _ => (pv 4)) (fun _ _ _ _ _ => (pv 3))))
  (pss_one (ps_ret (pe_tup (pa_cons (pe_calM M__named TT.cl (hr.mono (by first | decide | omega)) pass0 (pv 0) (pa_cons (k_fld (K := K) rfl (pv 0) rfl) (pa_cons (pv 2) pa_nil))) (pa_cons (pe_callTy (k_tuple_of (K := K) rfl) (by rfl) T.n_tuple (by decide +kernel) (pa_cons (pe_lc (own := [("registers", 5)]) rfl sc.nd (k_pi_list (K := K) rfl (k_fld (K := K) rfl (pv 0) rfl)) (blkOk_by (by first | decide +kernel | kernel_rfl)) (fun _ _ _ _ _ => (pg_name (i := 5) sc.nd rfl (by first | exact Or.inl rfl | exact Or.inr rfl))) (fun _ _ _ _ _ => pts_nil) (fun _ _ _ _ _ => (pe_calM M__named TT.cl (hr.mono (by first | decide | omega)) pass0 (pv 0) (pa_cons (pv 5) (pa_cons (pv 2) pa_nil))))) pa_nil)) (pa_cons (pe_callTy (k_tuple_of (K := K) rfl) (by rfl) T.n_tuple (by decide +kernel) (pa_cons (pe_lc (own := [("number", 4)]) rfl sc.nd (k_pi_list (K := K) rfl (pv 1)) (blkOk_by (by first | decide +kernel | kernel_rfl)) (fun _ _ _ _ _ => (pg_name (i := 4) sc.nd rfl (by first | exact Or.inl rfl | exact Or.inr rfl))) (fun _ _ _ _ _ => pts_nil) (fun _ _ _ _ _ => (pe_calM M__named TT.cl (hr.mono (by first | decide | omega)) pass0 (pv 0) (pa_cons (pe_dget (hu_of hr) (k_fld (K := K) rfl (pv 0) rfl) (pv 4) (fun _ _ => rfl)) (pa_cons (pv 2) pa_nil))))) pa_nil)) pa_nil)))))))), h.enter fun ds lh P hD => ?_⟩)
  obtain ⟨st, p, Sk, rfl, A0, Cl, hk⟩ := hD
  simp [A0.a]
  refine ⟨st, p, Sk, rfl, A0, Cl, fun q h1 lx1 hq e => ?_⟩
  have hl := Cl.wf.metLen
  simp [e, lv, numbered_eq]
  refine dcL_map (fun x => .inl x.1) (fun x => .int ((x.2 : Nat) : Int)) (by simp [e]) (by simpa using by omega) ?_ (fun a ha F hF => ?_) ?_
  · have e1 : ((met st).zipIdx 0).map (fun x => (Sum.inl x.1 : Key)) = (((met st).zipIdx 0).map Prod.fst).map Sum.inl := by rw [List.map_map]; rfl
    rw [e1, List.zipIdx_map_fst]
    exact Cl.wf.metNd
  · simp; exact hF
  · intro m hm1 hm2
    have lx2 : Lx lh (up h1 m (.dK (((met st).zipIdx 0).map fun a => (Sum.inl a.1, PyData.int ((a.2 : Nat) : Int))))) := lx1.trans (Lx.new hm2)
    have hm := up_same (h := h1) (a := m) (o := .dK (((met st).zipIdx 0).map fun a => (Sum.inl a.1, PyData.int ((a.2 : Nat) : Int))))
    have eq2 : up h1 m (.dK (((met st).zipIdx 0).map fun a => (Sum.inl a.1, PyData.int ((a.2 : Nat) : Int)))) q = some (.lst ((met st).map .int)) := by rw [up_ne (fun z => by subst z; rw [e] at hm1; cases hm1)]; exact e
    generalize up h1 m (.dK (((met st).zipIdx 0).map fun a => (Sum.inl a.1, PyData.int ((a.2 : Nat) : Int)))) = h2 at lx2 hm eq2 ⊢
    have nm : ∀ vs, Rin (· ∈ met st) vs → Nmd st (((met st).zipIdx 0).map fun a => (Sum.inl a.1, PyData.int ((a.2 : Nat) : Int))) vs := fun vs hv x hx n e => by
      rw [valD_num (hv x hx n e), Nat.zero_add]; rfl
    have W := Cl.wf
    have hsz := W.size
    have a2 := lx2 _ _ A0.a
    have g2 := lx2 _ _ A0.g
    have o2 := lx2 _ _ A0.o
    simp [a2, TT.cl, TT.n2, TT.n3, TT.n4, g2, lv]
    refine ⟨st, _, _, _, _, _, rfl, lx2 _ _ A0.r, hm, fun x hx => .inl (W.roots x hx), nm _ fun x hx => met_held x (List.mem_append_left _ hx), by omega, ?_⟩
    simp [a2, TT.cl, TT.n2, TT.n3, TT.n4, g2, lv]
    rw [A0.gfst]
    have gl := A0.gl
    have hgl : p.gs.length ≤ 1000 := (by rw [gl]; exact W.thr)
    refine lcL_map (emb := fun x : Addr × List PyData => rf x.1) (fun x => nms st x.2) (by simp [g2, A0.gfst]) (by rw [List.length_zip]; omega) (fun x hx F hF => ?_) ?_
    · obtain ⟨h3, h4⟩ := A0.gz x hx
      simp [a2]
      refine ⟨st, _, _, _, _, _, rfl, lx2 _ _ h3, hm, fun y hy => .inl (W.regs _ h4 y hy), nm _ fun y hy => met_held y (List.mem_append_right _ (List.mem_flatten.mpr ⟨_, h4, hy⟩)), ?_, hF⟩
      have := mem_flat h4
      omega
    · rw [A0.gsnd]
      simp [eq2]
      refine lcL_map (emb := PyData.int) (fun k => nms st (st.look k)) (by simp [eq2]) (by omega) (fun k hk F hF => ?_) ?_
      · have hk2 := Cl.met k hk
        simp [a2, o2, TT.cl, TT.n4, A0.val hk2]
        refine ⟨st, _, _, _, _, _, rfl, lx2 _ _ (A0.oc k hk2), hm, (W.look k (Cl.kn k hk2)).2, nm _ (W.metClosed k hk), ?_, hF⟩
        have := (W.look k (Cl.kn k hk2)).1
        omega
      · exact hk h2 lx2
end
end K37
set_option Elab.async false
set_option linter.all false
set_option maxRecDepth 100000
set_option maxHeartbeats 1000000
namespace K37
open PySem PySem.Spec PyProof.Rows L2 Evl Pd Wl
/-- all but F stays -/
abbrev Kp (F : List Addr) (h h' : Lh) : Prop := ∀ x o, x ∉ F → h x = some o → h' x = some o
theorem Kp.put {F : List Addr} {h : Lh} {q : Addr} {u : LO} (m : q ∈ F) : Kp F h (up h q u) := fun x o n e => by
  rw [up_ne (fun z => n (by rw [z]; exact m))]; exact e
theorem Kp.trans {F : List Addr} {h h1 h2 : Lh} (a : Kp F h h1) (b : Kp F h1 h2) : Kp F h h2 := fun x o n e => b x o n (a x o n e)
theorem Kp.lx {F : List Addr} {h h1 h2 : Lh} (a : Kp F h h1) (b : Lx h1 h2) : Kp F h h2 := fun x o n e => b x o (a x o n e)
theorem Lx.kp {F : List Addr} {h h1 : Lh} (a : Lx h h1) : Kp F h h1 := fun x o _ e => a x o e
theorem Kp.put2 {F : List Addr} {h0 h : Lh} (k : Kp F h0 h) {q : Addr} {u : LO} (m : q ∈ F) : Kp F h0 (up h q u) := fun x o n e => by
  rw [up_ne (fun z => n (by rw [z]; exact m))]; exact k x o n e
theorem Kp.new2 {F : List Addr} {h0 h : Lh} (k : Kp F h0 h) {q : Addr} {u : LO} (m : h0 q = none) : Kp F h0 (up h q u) := fun x o n e => by
  rw [up_ne (fun z => by subst z; rw [m] at e; cases e)]; exact k x o n e
theorem Kp.refl (F : List Addr) (h : Lh) : Kp F h h := fun _ _ _ e => e
/-- from one set of places to the next -/
structure Gp (F : List Addr) (h : Lh) (F' : List Addr) (h' : Lh) : Prop where
  fr : Kp F h h'
  nw : ∀ x ∈ F', x ∈ F ∨ h x = none
theorem Gp.refl (F : List Addr) (h : Lh) : Gp F h F h := ⟨fun _ _ _ e => e, fun _ m => .inl m⟩
theorem Gp.trans {F F1 F2 : List Addr} {h h1 h2 : Lh} (a : Gp F h F1 h1) (b : Gp F1 h1 F2 h2) : Gp F h F2 h2 := by
  have fr : Kp F h h2 := fun x o n e => by
    refine b.fr x o (fun m => ?_) (a.fr x o n e)
    rcases a.nw x m with q | q
    · exact n q
    · rw [q] at e; cases e
  refine ⟨fr, fun x m => ?_⟩
  rcases b.nw x m with q | q
  · exact a.nw x q
  · by_cases c : x ∈ F
    · exact .inl c
    · refine .inr ?_
      cases e : h x with
      | none => rfl
      | some o => rw [a.fr x o c e] at q; cases q
theorem nd_at {α : Type} {l : List α} (h : l.Nodup) {i j : Nat} (hi : i < l.length) (hj : j < l.length) (e : l[i] = l[j]) : i = j := by
  have q := List.pairwise_iff_getElem.mp h
  rcases Nat.lt_trichotomy i j with c | c | c
  · exact absurd e (q i j hi hj c)
  · exact c
  · exact absurd e.symm (q j i hj hi c)
theorem nd_map {α β : Type} {f : α → β} : ∀ {l : List α}, (l.map f).Nodup → ∀ k ∈ l, ∀ m ∈ l, f k = f m → k = m
  | [], _, k, hk, _, _, _ => by cases hk
  | a :: l, h, k, hk, m, hm, e => by
    rw [List.map_cons, List.nodup_cons] at h
    rcases List.mem_cons.mp hk with e1 | hk1
    · rcases List.mem_cons.mp hm with e2 | hm1
      · rw [e1, e2]
      · exact absurd (List.mem_map.mpr ⟨m, hm1, by rw [← e, e1]⟩) h.1
    · rcases List.mem_cons.mp hm with e2 | hm1
      · exact absurd (List.mem_map.mpr ⟨k, hk1, by rw [e, e2]⟩) h.1
      · exact nd_map h.2 k hk1 m hm1 e
section
variable {C : Addr} {st : PSt} {p : Pl} {S : List Int} {h h' : Lh}
theorem PlainK.dist (A : PlainK C st p S h) : (p.a ≠ p.r ∧ p.a ≠ p.g ∧ p.a ≠ p.o ∧ p.r ≠ p.g ∧ p.r ≠ p.o ∧ p.g ≠ p.o) ∧ (∀ (i : Nat) (hi : i < p.gs.length), p.a ≠ p.gs[i] ∧ p.r ≠ p.gs[i] ∧ p.g ≠ p.gs[i] ∧ p.o ≠ p.gs[i]) ∧ (∀ k ∈ S, p.a ≠ p.ca k ∧ p.r ≠ p.ca k ∧ p.g ≠ p.ca k ∧ p.o ≠ p.ca k) ∧
    (∀ (i j : Nat) (hi : i < p.gs.length) (hj : j < p.gs.length), p.gs[i] = p.gs[j] → i = j) ∧ (∀ k ∈ S, ∀ m ∈ S, p.ca k = p.ca m → k = m) ∧ ∀ (i : Nat) (hi : i < p.gs.length), ∀ k ∈ S, p.gs[i] ≠ p.ca k := by
  have nd := A.nd
  unfold Pl.F at nd
  simp only [List.nodup_cons, List.mem_cons, List.mem_append, List.mem_map, not_or, List.nodup_append, not_exists, not_and] at nd
  obtain ⟨⟨a1, a2, a3, a4, a5⟩, ⟨b1, b2, b3, b4⟩, ⟨c1, c2, c3⟩, ⟨d1, d2⟩, e1, e2, e3⟩ := nd
  refine ⟨⟨a1, a2, a3, b1, b2, c1⟩, fun i hi => ?_, fun k hk => ⟨fun z => a5 k hk z.symm, fun z => b4 k hk z.symm, fun z => c3 k hk z.symm, fun z => d2 k hk z.symm⟩, fun i j hi hj z => ?_, fun k hk m hm z => ?_, fun i hi k hk z => ?_⟩
  · have m := List.getElem_mem hi
    exact ⟨fun z => a4 (z ▸ m), fun z => b3 (z ▸ m), fun z => c2 (z ▸ m), fun z => d1 (z ▸ m)⟩
  · exact nd_at e1 hi hj z
  · exact nd_map e2 k hk m hm z
  · exact e3 _ (List.getElem_mem hi) _ ⟨k, hk, rfl⟩ z
theorem row_set {st : PSt} {t i : Nat} {r : Int} {v : PyData} (ht : t < st.regs.length) : row (setR st t r v) i = if i = t then (row st t).set r.toNat v else row st i := by
  unfold row setR
  simp only [List.getD_eq_getElem?_getD, List.getElem?_set]
  by_cases c : t = i
  · subst c; simp [ht, row]
  · simp [c, Ne.symm c]
theorem PlainK.setR (A : PlainK C st p S h) {t : Nat} (ht : t < p.gs.length) (r : Int) (v : PyData) : PlainK C (setR st t r v) p S (up h p.gs[t] (.lst ((row st t).set r.toNat v))) := by
  obtain ⟨⟨a1, a2, a3, b1, b2, c1⟩, dg, dc, gg, cc, gc⟩ := A.dist
  obtain ⟨g1, g2, g3, g4⟩ := dg t ht
  have gl := A.gl
  exact {
    nd := A.nd
    a := by rw [up_ne g1]; exact A.a
    r := by rw [up_ne g2]; exact A.r
    g := by rw [up_ne g3]; exact A.g
    o := by rw [up_ne g4]; exact A.o
    gl := by rw [A.gl]; exact List.length_set.symm
    gr := fun i hi => by
      rw [row_set (by omega)]
      by_cases c : i = t
      · subst c; rw [if_pos rfl, up_same]
      · rw [if_neg c, up_ne (fun z => c (gg i t hi ht z))]; exact A.gr i hi
    oc := fun k hk => by
      rw [up_ne (gc t ht k hk).symm]; exact A.oc k hk }
theorem PlainK.setRoot (A : PlainK C st p S h) (i : Int) (v : PyData) : PlainK C (setRoot st i v) p S (up h p.r (.lst (st.roots.set i.toNat v))) := by
  obtain ⟨⟨a1, a2, a3, b1, b2, c1⟩, dg, dc, gg, cc, gc⟩ := A.dist
  exact {
    nd := A.nd
    a := by rw [up_ne a1]; exact A.a
    r := by rw [up_same]; rfl
    g := by rw [up_ne b1.symm]; exact A.g
    o := by rw [up_ne b2.symm]; exact A.o
    gl := A.gl
    gr := fun i hi => by rw [up_ne (dg i hi).2.1.symm]; exact A.gr i hi
    oc := fun k hk => by rw [up_ne (dc k hk).2.1.symm]; exact A.oc k hk }
theorem PlainK.setC (A : PlainK C st p S h) {n : Int} (hn : n ∈ S) (k : Int) (v : PyData) : PlainK C (setC st n k v) p S (up h (p.ca n) (.lst ((st.look n).set k.toNat v))) := by
  obtain ⟨⟨a1, a2, a3, b1, b2, c1⟩, dg, dc, gg, cc, gc⟩ := A.dist
  obtain ⟨g1, g2, g3, g4⟩ := dc n hn
  exact {
    nd := A.nd
    a := by rw [up_ne g1]; exact A.a
    r := by rw [up_ne g2]; exact A.r
    g := by rw [up_ne g3]; exact A.g
    o := by rw [up_ne g4]; exact A.o
    gl := A.gl
    gr := fun i hi => by rw [up_ne (gc i hi n hn)]; exact A.gr i hi
    oc := fun m hm => by
      show _ = some (LO.lst (if m = n then _ else _))
      by_cases c : m = n
      · subst c; rw [if_pos rfl, up_same]
      · rw [if_neg c, up_ne (fun z => c (cc m hm n hn z))]; exact A.oc m hm }
/-- the places behind a put -/
def Pl.add (p : Pl) (n : Int) (q : Addr) : Pl := { p with ca := fun k => if k = n then q else p.ca k }
theorem map_add {p : Pl} {n : Int} {q : Addr} (hn : n ∉ S) : S.map (p.add n q).ca = S.map p.ca := List.map_congr_left fun k hk => by
  show (if k = n then q else p.ca k) = p.ca k
  rw [if_neg (fun z => hn (by rw [← z]; exact hk))]
theorem PlainK.put (A : PlainK C st p S h) {t : Nat} (ht : t < p.gs.length) (r s : Int) {q : Addr} (hq : h q = none) (hn : (st.count : Int) ∉ S) :
    PlainK C (K37.setR (newO st s) t r (ref st.count)) (p.add st.count q) (S ++ [(st.count : Int)]) (up (up (up (up h p.gs[t] (.lst ((row st t).set r.toNat (ref st.count)))) q (.lst (List.replicate s.toNat .none))) p.o (.dK (kvsOf p.ca S ++ [(.inl (st.count : Int), rf q)]))) p.a (po C (newO st s) p.r p.g p.o)) := by
  obtain ⟨⟨a1, a2, a3, b1, b2, c1⟩, dg, dc, gg, cc, gc⟩ := A.dist
  obtain ⟨g1, g2, g3, g4⟩ := dg t ht
  have gl := A.gl
  have nq : ∀ x o, h x = some o → x ≠ q := fun x o e z => by subst z; rw [hq] at e; cases e
  have q1 := nq _ _ A.a
  have q2 := nq _ _ A.r
  have q3 := nq _ _ A.g
  have q4 := nq _ _ A.o
  have caS : ∀ k ∈ S, (p.add st.count q).ca k = p.ca k := fun k hk => by
    show (if k = _ then q else p.ca k) = p.ca k
    rw [if_neg (fun z => hn (by rw [← z]; exact hk))]
  have can : (p.add st.count q).ca st.count = q := if_pos rfl
  have kv : kvsOf (p.add st.count q).ca (S ++ [(st.count : Int)]) = kvsOf p.ca S ++ [(.inl (st.count : Int), rf q)] := by
    unfold kvsOf
    rw [List.map_append, List.map_cons, List.map_nil, can]
    congr 1
    exact List.map_congr_left fun k hk => by rw [caS k hk]
  exact {
    nd := by
      have nd := A.nd
      unfold Pl.F at nd ⊢
      rw [List.map_append, List.map_cons, List.map_nil, can, map_add hn]
      have : (p.a :: p.r :: p.g :: p.o :: (p.gs ++ (S.map p.ca ++ [q]))) = (p.a :: p.r :: p.g :: p.o :: (p.gs ++ S.map p.ca)) ++ [q] := by simp
      show (p.a :: p.r :: p.g :: p.o :: (p.gs ++ (S.map p.ca ++ [q]))).Nodup
      rw [this, List.nodup_append]
      refine ⟨nd, by simp, fun x hx y hy => ?_⟩
      cases List.mem_singleton.mp hy
      obtain ⟨o, e⟩ := A.mem x hx
      exact nq x o e
    a := by
      show up _ p.a _ p.a = _
      rw [up_same]; rfl
    r := by
      show up _ p.a _ p.r = _
      rw [up_ne a1.symm, up_ne b2, up_ne q2, up_ne g2]; exact A.r
    g := by
      show up _ p.a _ p.g = _
      rw [up_ne a2.symm, up_ne c1, up_ne q3, up_ne g3]; exact A.g
    o := by
      show up _ p.a _ p.o = _
      rw [up_ne a3.symm, up_same, kv]
    gl := by
      show p.gs.length = _
      rw [A.gl]; exact List.length_set.symm
    gr := fun i hi => by
      have hi' : i < p.gs.length := hi
      show up _ p.a _ p.gs[i] = _
      obtain ⟨i1, i2, i3, i4⟩ := dg i hi'
      have i5 := nq _ _ (A.gr i hi')
      rw [up_ne i1.symm, up_ne i4.symm, up_ne i5, row_set (st := newO st s) (by show t < st.regs.length; omega)]
      by_cases c : i = t
      · subst c; rw [if_pos rfl, up_same]; rfl
      · rw [if_neg c, up_ne (fun z => c (gg i t hi' ht z))]; exact A.gr i hi'
    oc := fun k hk => by
      show _ = some (LO.lst (if k = _ then _ else _))
      rcases List.mem_append.mp hk with hk | hk
      · obtain ⟨i1, i2, i3, i4⟩ := dc k hk
        rw [caS k hk, if_neg (fun z => hn (by rw [← z]; exact hk)), up_ne i1.symm, up_ne i4.symm, up_ne (nq _ _ (A.oc k hk)), up_ne (gc t ht k hk).symm]
        exact A.oc k hk
      · cases List.mem_singleton.mp hk
        rw [can, if_pos rfl, up_ne q1.symm, up_ne q4.symm, up_same] }
/-- a dict with the objects of S' alone -/
theorem PlainK.forget (A : PlainK C st p S h) {S' : List Int} (hs : ∀ k ∈ S', k ∈ S) (nd' : S'.Nodup) {q : Addr} (hq : h q = none) : PlainK C st { p with o := q } S' (up (up h q (.dK (kvsOf p.ca S'))) p.a (po C st p.r p.g q)) := by
  obtain ⟨⟨a1, a2, a3, b1, b2, c1⟩, dg, dc, gg, cc, gc⟩ := A.dist
  have nq : ∀ x o, h x = some o → x ≠ q := fun x o e z => by subst z; rw [hq] at e; cases e
  have q1 := nq _ _ A.a
  have q2 := nq _ _ A.r
  have q3 := nq _ _ A.g
  exact {
    nd := by
      unfold Pl.F
      have nd := A.nd
      unfold Pl.F at nd
      have mm : ∀ x ∈ S'.map p.ca, x ∈ S.map p.ca := fun x hx => by
        obtain ⟨k, hk, e⟩ := List.mem_map.mp hx
        exact List.mem_map.mpr ⟨k, hs k hk, e⟩
      have nS : (S'.map p.ca).Nodup := List.pairwise_map.mpr (List.Pairwise.imp_of_mem (fun {a b} ha hb n z => n (cc a (hs a ha) b (hs b hb) z)) nd')
      have qn : q ∉ p.gs ++ S'.map p.ca := fun z => by
        rcases List.mem_append.mp z with z | z
        · obtain ⟨i, hi, e⟩ := List.getElem_of_mem z
          exact nq _ _ (A.gr i hi) e
        · obtain ⟨k, hk, e⟩ := List.mem_map.mp z
          exact nq _ _ (A.oc k (hs k hk)) e
      simp only [List.nodup_cons, List.mem_cons, List.mem_append, not_or, List.nodup_append] at nd qn ⊢
      obtain ⟨⟨_, _, _, a4, a5⟩, ⟨_, _, b3, b4⟩, ⟨_, c2, c3⟩, ⟨d1, d2⟩, e1, e2, e3⟩ := nd
      exact ⟨⟨a1, a2, q1, a4, fun z => a5 (mm _ z)⟩, ⟨b1, q2, b3, fun z => b4 (mm _ z)⟩, ⟨q3, c2, fun z => c3 (mm _ z)⟩, qn, e1, nS, fun x hx y hy => e3 x hx y (mm _ hy)⟩
    a := up_same
    r := by
      show up _ p.a _ p.r = _
      rw [up_ne a1.symm, up_ne q2]; exact A.r
    g := by
      show up _ p.a _ p.g = _
      rw [up_ne a2.symm, up_ne q3]; exact A.g
    o := by
      show up _ p.a _ q = _
      rw [up_ne q1.symm, up_same]
    gl := A.gl
    gr := fun i hi => by
      have hi' : i < p.gs.length := hi
      show up _ p.a _ p.gs[i] = _
      rw [up_ne (dg i hi').1.symm, up_ne (nq _ _ (A.gr i hi'))]; exact A.gr i hi'
    oc := fun k hk => by
      show up _ p.a _ (p.ca k) = _
      rw [up_ne (dc k (hs k hk)).1.symm, up_ne (nq _ _ (A.oc k (hs k hk)))]; exact A.oc k (hs k hk) }
theorem PlainK.memca (A : PlainK C st p S h) {n : Int} (hn : n ∈ S) : p.ca n ∈ p.F S := by
  unfold Pl.F
  simp only [List.mem_cons, List.mem_append, List.mem_map]
  exact .inr (.inr (.inr (.inr (.inr ⟨n, hn, rfl⟩))))
end
end K37
set_option Elab.async false
set_option linter.all false
set_option maxRecDepth 100000
set_option maxHeartbeats 1000000
namespace K37
open PySem PySem.Spec PyProof.Rows L2 Evl Pd Wl
theorem isOp_eq (R G : Int) (w f : Str) (ps : List PyData) (hf : formS w = some f) : isOp R G (.tuple (.str w :: ps)) = (decide (ps.length = f.cps.size) && (f.cps.toList.zip ps).all (kpart R G)) := by
  show (match formS w with | none => false | some f => _) = _
  rw [hf]
theorem ch_r : (⟨#[114]⟩ : Str) = "r" := by decide +kernel
theorem part_r {R G i : Int} (h : 0 ≤ i ∧ i < G) : kpart R G (114, .int i) = true := by
  show partOk R G ⟨#[114]⟩ (.int i) = true
  rw [ch_r]
  simp [partOk, h]
theorem ch_s : (⟨#[115]⟩ : Str) = "s" := by decide +kernel
theorem part_s {R G i : Int} (h : 1 ≤ i ∧ i ≤ 1000000000) : kpart R G (115, .int i) = true := by
  show partOk R G ⟨#[115]⟩ (.int i) = true
  rw [ch_s]
  simp [partOk, h]
theorem ch_k : (⟨#[107]⟩ : Str) = "k" := by decide +kernel
theorem part_k {R G i : Int} (h : 0 ≤ i ∧ i ≤ 1000000000) : kpart R G (107, .int i) = true := by
  show partOk R G ⟨#[107]⟩ (.int i) = true
  rw [ch_k]
  simp [partOk, h]
theorem ch_n : (⟨#[110]⟩ : Str) = "n" := by decide +kernel
theorem part_n {R G i : Int} (h : absI i < 1000000000000000000) : kpart R G (110, .int i) = true := by
  show partOk R G ⟨#[110]⟩ (.int i) = true
  rw [ch_n]
  simp [partOk, h]
theorem ch_i : (⟨#[105]⟩ : Str) = "i" := by decide +kernel
theorem part_i {R G i : Int} (h : 0 ≤ i ∧ i < R) : kpart R G (105, .int i) = true := by
  show partOk R G ⟨#[105]⟩ (.int i) = true
  rw [ch_i]
  simp [partOk, h]
theorem op_put {R G : Int} {a0 a1 : Int} (h0 : 0 ≤ a0 ∧ a0 < G) (h1 : 1 ≤ a1 ∧ a1 ≤ 1000000000) : isOp R G (.tuple [.str "put", .int a0, .int a1]) = true := by
  rw [isOp_eq R G "put" "rs" _ (by decide +kernel), show ("rs" : Str).cps.toList = [114, 115] by decide +kernel, show ("rs" : Str).cps.size = 2 by decide +kernel]
  simp only [List.length_cons, List.length_nil, List.zip_cons_cons, List.zip_nil_right, List.all_cons, List.all_nil, part_r h0, part_s h1]
  rfl
theorem op_get {R G : Int} {a0 a1 : Int} (h0 : 0 ≤ a0 ∧ a0 < G) (h1 : 0 ≤ a1 ∧ a1 ≤ 1000000000) : isOp R G (.tuple [.str "get", .int a0, .int a1]) = true := by
  rw [isOp_eq R G "get" "rk" _ (by decide +kernel), show ("rk" : Str).cps.toList = [114, 107] by decide +kernel, show ("rk" : Str).cps.size = 2 by decide +kernel]
  simp only [List.length_cons, List.length_nil, List.zip_cons_cons, List.zip_nil_right, List.all_cons, List.all_nil, part_r h0, part_k h1]
  rfl
theorem op_set {R G : Int} {a0 a1 a2 : Int} (h0 : 0 ≤ a0 ∧ a0 < G) (h1 : 0 ≤ a1 ∧ a1 ≤ 1000000000) (h2 : absI a2 < 1000000000000000000) : isOp R G (.tuple [.str "set", .int a0, .int a1, .int a2]) = true := by
  rw [isOp_eq R G "set" "rkn" _ (by decide +kernel), show ("rkn" : Str).cps.toList = [114, 107, 110] by decide +kernel, show ("rkn" : Str).cps.size = 3 by decide +kernel]
  simp only [List.length_cons, List.length_nil, List.zip_cons_cons, List.zip_nil_right, List.all_cons, List.all_nil, part_r h0, part_k h1, part_n h2]
  rfl
theorem op_load {R G : Int} {a0 a1 a2 : Int} (h0 : 0 ≤ a0 ∧ a0 < G) (h1 : 0 ≤ a1 ∧ a1 < G) (h2 : 0 ≤ a2 ∧ a2 ≤ 1000000000) : isOp R G (.tuple [.str "load", .int a0, .int a1, .int a2]) = true := by
  rw [isOp_eq R G "load" "rrk" _ (by decide +kernel), show ("rrk" : Str).cps.toList = [114, 114, 107] by decide +kernel, show ("rrk" : Str).cps.size = 3 by decide +kernel]
  simp only [List.length_cons, List.length_nil, List.zip_cons_cons, List.zip_nil_right, List.all_cons, List.all_nil, part_r h0, part_r h1, part_k h2]
  rfl
theorem op_store {R G : Int} {a0 a1 a2 : Int} (h0 : 0 ≤ a0 ∧ a0 < G) (h1 : 0 ≤ a1 ∧ a1 ≤ 1000000000) (h2 : 0 ≤ a2 ∧ a2 < G) : isOp R G (.tuple [.str "store", .int a0, .int a1, .int a2]) = true := by
  rw [isOp_eq R G "store" "rkr" _ (by decide +kernel), show ("rkr" : Str).cps.toList = [114, 107, 114] by decide +kernel, show ("rkr" : Str).cps.size = 3 by decide +kernel]
  simp only [List.length_cons, List.length_nil, List.zip_cons_cons, List.zip_nil_right, List.all_cons, List.all_nil, part_r h0, part_k h1, part_r h2]
  rfl
theorem op_root {R G : Int} {a0 a1 : Int} (h0 : 0 ≤ a0 ∧ a0 < R) (h1 : 0 ≤ a1 ∧ a1 < G) : isOp R G (.tuple [.str "root", .int a0, .int a1]) = true := by
  rw [isOp_eq R G "root" "ir" _ (by decide +kernel), show ("ir" : Str).cps.toList = [105, 114] by decide +kernel, show ("ir" : Str).cps.size = 2 by decide +kernel]
  simp only [List.length_cons, List.length_nil, List.zip_cons_cons, List.zip_nil_right, List.all_cons, List.all_nil, part_i h0, part_r h1]
  rfl
theorem op_take {R G : Int} {a0 a1 : Int} (h0 : 0 ≤ a0 ∧ a0 < G) (h1 : 0 ≤ a1 ∧ a1 < R) : isOp R G (.tuple [.str "take", .int a0, .int a1]) = true := by
  rw [isOp_eq R G "take" "ri" _ (by decide +kernel), show ("ri" : Str).cps.toList = [114, 105] by decide +kernel, show ("ri" : Str).cps.size = 2 by decide +kernel]
  simp only [List.length_cons, List.length_nil, List.zip_cons_cons, List.zip_nil_right, List.all_cons, List.all_nil, part_r h0, part_i h1]
  rfl
theorem op_copy {R G : Int} {a0 a1 : Int} (h0 : 0 ≤ a0 ∧ a0 < G) (h1 : 0 ≤ a1 ∧ a1 < G) : isOp R G (.tuple [.str "copy", .int a0, .int a1]) = true := by
  rw [isOp_eq R G "copy" "rr" _ (by decide +kernel), show ("rr" : Str).cps.toList = [114, 114] by decide +kernel, show ("rr" : Str).cps.size = 2 by decide +kernel]
  simp only [List.length_cons, List.length_nil, List.zip_cons_cons, List.zip_nil_right, List.all_cons, List.all_nil, part_r h0, part_r h1]
  rfl
theorem op_drop {R G : Int} {a0 : Int} (h0 : 0 ≤ a0 ∧ a0 < G) : isOp R G (.tuple [.str "drop", .int a0]) = true := by
  rw [isOp_eq R G "drop" "r" _ (by decide +kernel), show ("r" : Str).cps.toList = [114] by decide +kernel, show ("r" : Str).cps.size = 1 by decide +kernel]
  simp only [List.length_cons, List.length_nil, List.zip_cons_cons, List.zip_nil_right, List.all_cons, List.all_nil, part_r h0]
  rfl
theorem op_same {R G : Int} {a0 a1 : Int} (h0 : 0 ≤ a0 ∧ a0 < G) (h1 : 0 ≤ a1 ∧ a1 < G) : isOp R G (.tuple [.str "same", .int a0, .int a1]) = true := by
  rw [isOp_eq R G "same" "rr" _ (by decide +kernel), show ("rr" : Str).cps.toList = [114, 114] by decide +kernel, show ("rr" : Str).cps.size = 2 by decide +kernel]
  simp only [List.length_cons, List.length_nil, List.zip_cons_cons, List.zip_nil_right, List.all_cons, List.all_nil, part_r h0, part_r h1]
  rfl
theorem op_size {R G : Int} {a0 : Int} (h0 : 0 ≤ a0 ∧ a0 < G) : isOp R G (.tuple [.str "size", .int a0]) = true := by
  rw [isOp_eq R G "size" "r" _ (by decide +kernel), show ("r" : Str).cps.toList = [114] by decide +kernel, show ("r" : Str).cps.size = 1 by decide +kernel]
  simp only [List.length_cons, List.length_nil, List.zip_cons_cons, List.zip_nil_right, List.all_cons, List.all_nil, part_r h0]
  rfl
theorem Op.isOp {R G : Int} : ∀ {op : Op}, op.ok R G → K37.isOp R G op.d = true
  | .put _ _, h => op_put h.1 ⟨h.2.1, by have := h.2.2; omega⟩
  | .get _ _, h => op_get h.1 h.2
  | .set _ _ _, h => op_set h.1 h.2.1 h.2.2
  | .load _ _ _, h => op_load h.1 h.2.1 h.2.2
  | .store _ _ _, h => op_store h.1 h.2.1 h.2.2
  | .root _ _, h => op_root h.1 h.2
  | .take _ _, h => op_take h.1 h.2
  | .copy _ _, h => op_copy h.1 h.2
  | .drop _, h => op_drop h
  | .same _ _, h => op_same h.1 h.2
  | .size _, h => op_size h
theorem rd_ints {s : Str} {ns : List Int} (h : PyData.strOk s = true) (l : ns.length ≤ 50) : Rd0 (.tuple (.str s :: ns.map PyData.int)) := by
  refine ⟨1, by decide, .tup 0 _ (by simp; omega) fun d hd => ?_⟩
  rcases List.mem_cons.mp hd with rfl | hd
  · exact .str 0 _ h
  · obtain ⟨n, _, rfl⟩ := List.mem_map.mp hd
    exact .int 0 _
theorem Op.rd : ∀ op : Op, Rd0 op.d
  | .put a b => rd_ints (s := "put") (ns := [a, b]) (by decide +kernel) (by simp)
  | .get a b => rd_ints (s := "get") (ns := [a, b]) (by decide +kernel) (by simp)
  | .set a b c => rd_ints (s := "set") (ns := [a, b, c]) (by decide +kernel) (by simp)
  | .load a b c => rd_ints (s := "load") (ns := [a, b, c]) (by decide +kernel) (by simp)
  | .store a b c => rd_ints (s := "store") (ns := [a, b, c]) (by decide +kernel) (by simp)
  | .root a b => rd_ints (s := "root") (ns := [a, b]) (by decide +kernel) (by simp)
  | .take a b => rd_ints (s := "take") (ns := [a, b]) (by decide +kernel) (by simp)
  | .copy a b => rd_ints (s := "copy") (ns := [a, b]) (by decide +kernel) (by simp)
  | .drop a => rd_ints (s := "drop") (ns := [a]) (by decide +kernel) (by simp)
  | .same a b => rd_ints (s := "same") (ns := [a, b]) (by decide +kernel) (by simp)
  | .size a => rd_ints (s := "size") (ns := [a]) (by decide +kernel) (by simp)
/-! closed sets behind a step -/
theorem rin_flat {S : Int → Prop} {l : List (List PyData)} : Rin S l.flatten ↔ ∀ r ∈ l, Rin S r := ⟨fun h r hr v hv => h v (List.mem_flatten.mpr ⟨r, hr, hv⟩), fun h v hv => by
  obtain ⟨r, hr, hv⟩ := List.mem_flatten.mp hv
  exact h r hr v hv⟩
theorem rin_append {S : Int → Prop} {a b : List PyData} : Rin S (a ++ b) ↔ Rin S a ∧ Rin S b := ⟨fun h => ⟨fun v hv => h v (List.mem_append_left _ hv), fun v hv => h v (List.mem_append_right _ hv)⟩, fun h => h.1.append h.2⟩
theorem rin_set {S : Int → Prop} {l : List PyData} {i : Nat} {v : PyData} (h : Rin S l) (hv : ∀ n, refOf v = some n → S n) : Rin S (l.set i v) := fun u hu => by
  rcases List.mem_or_eq_of_mem_set hu with q | rfl
  · exact h u q
  · exact hv
theorem rin_row {S : Int → Prop} {st : PSt} (h : Rin S (held st)) (t : Nat) : Rin S (row st t) := by
  unfold row
  rcases Nat.lt_or_ge t st.regs.length with c | c
  · exact rin_flat.mp (rin_append.mp h).2 _ (getD_mem c)
  · rw [getD_ge c]; exact Rin.nil
theorem rin_getD {S : Int → Prop} {l : List PyData} {i : Nat} (h : Rin S l) : ∀ n, refOf (l.getD i .none) = some n → S n := by
  rcases Nat.lt_or_ge i l.length with c | c
  · exact h _ (getD_mem c)
  · rw [getD_ge c]; intro n e; cases e
theorem Clo.setR {st : PSt} {S : List Int} (C : Clo st S) {t : Nat} {r : Int} {v : PyData} (o : OkR st.count v) (hv : ∀ n, refOf v = some n → n ∈ S) : Clo (setR st t r v) S where
  wf := C.wf.setR o
  hd := by
    obtain ⟨h1, h2⟩ := rin_append.mp C.hd
    refine rin_append.mpr ⟨h1, rin_flat.mpr fun x hx => ?_⟩
    rcases List.mem_or_eq_of_mem_set hx with q | rfl
    · exact rin_flat.mp h2 x q
    · exact rin_set (rin_row C.hd t) hv
  lk := C.lk
  kn := C.kn
  nd := C.nd
theorem Clo.setRoot {st : PSt} {S : List Int} (C : Clo st S) {i : Int} {v : PyData} (o : OkR st.count v) (hv : ∀ n, refOf v = some n → n ∈ S) : Clo (setRoot st i v) S where
  wf := C.wf.setRoot o
  hd := by
    obtain ⟨h1, h2⟩ := rin_append.mp C.hd
    exact rin_append.mpr ⟨rin_set h1 hv, h2⟩
  lk := C.lk
  kn := C.kn
  nd := C.nd
theorem Clo.setC {st : PSt} {S : List Int} (C : Clo st S) {n k : Int} {v : PyData} (o : OkV st.count v) (hv : ∀ n, refOf v = some n → n ∈ S) (hn : n ∈ S) : Clo (setC st n k v) S where
  wf := C.wf.setC o
  hd := C.hd
  lk := fun m hm => by
    show Rin _ (if m = n then _ else _)
    by_cases c : m = n
    · rw [if_pos c]; exact rin_set (C.lk n hn) hv
    · rw [if_neg c]; exact C.lk m hm
  kn := C.kn
  nd := C.nd
theorem Clo.newO {st : PSt} {S : List Int} (C : Clo st S) {s : Int} (h : s ≤ 50) (hc : st.count < 1000) : Clo (newO st s) (S ++ [(st.count : Int)]) where
  wf := C.wf.newO h hc
  hd := C.hd.mono fun n h => List.mem_append_left _ h
  lk := fun m hm => by
    show Rin _ (if m = (st.count : Int) then _ else _)
    by_cases c : m = (st.count : Int)
    · rw [if_pos c]; exact fun v hv => by rw [(List.mem_replicate.mp hv).2]; intro n e; cases e
    · rw [if_neg c]
      rcases List.mem_append.mp hm with q | q
      · exact (C.lk m q).mono fun n h => List.mem_append_left _ h
      · exact absurd (List.mem_singleton.mp q) c
  kn := fun k hk => by
    rcases List.mem_append.mp hk with q | q
    · exact ⟨(C.kn k q).1, by have := (C.kn k q).2; show k < ((st.count + 1 : Nat) : Int); omega⟩
    · cases List.mem_singleton.mp q; exact ⟨by omega, by show (st.count : Int) < ((st.count + 1 : Nat) : Int); omega⟩
  nd := by
    rw [List.nodup_append]
    refine ⟨C.nd, by simp, fun a ha b hb => ?_⟩
    cases List.mem_singleton.mp hb
    intro z
    have := (C.kn a ha).2
    omega
theorem Clo.put {st : PSt} {S : List Int} (C : Clo st S) {t : Nat} {r s : Int} (h : s ≤ 50) (hc : st.count < 1000) : Clo (K37.setR (K37.newO st s) t r (ref st.count)) (S ++ [(st.count : Int)]) :=
  (C.newO h hc).setR (.inr ⟨_, rfl, by omega, by show (st.count : Int) < ((st.count + 1 : Nat) : Int); omega⟩) fun n e => by
    cases e; simp
theorem Clo.step {st : PSt} {S : List Int} (C : Clo st S) (t : Nat) {op : Op} (np : ∀ r s, op ≠ .put r s) : Clo (K37.step st t op).2 S := by
  have hrv : ∀ r n, refOf (rv st t r) = some n → n ∈ S := fun r => rin_getD (rin_row C.hd t)
  have ho : ∀ (r k : Int) (f : Int → PyData × PSt), (∀ n, rv st t r = ref n → n ∈ S → Clo (f n).2 S) → Clo (onO st (rv st t r) k f).2 S := fun r k f hf => by
    unfold onO
    split
    · exact C
    · rename_i n e
      split
      · exact C
      · exact hf n ((C.wf.rv t r).kn e).1 (hrv r n e)
  cases op with
  | put r s => exact absurd rfl (np r s)
  | get r k => exact ho r k _ fun n _ _ => C
  | set r k x => exact ho r k _ fun n _ hn => C.setC (.inr ⟨x, rfl⟩) (fun n e => by cases e) hn
  | load q r k => exact ho r k _ fun n _ hn => C.setR (C.wf.cell k (C.kn n hn)).onN (fun m e => by
      unfold onN at e
      split at e
      · cases e
      · exact rin_getD (C.lk n hn) m e)
  | store r k q => exact ho r k _ fun n _ hn => C.setC (.inl (C.wf.rv t q)) (hrv q) hn
  | root i r => exact C.setRoot (C.wf.rv t r) (hrv r)
  | take r i => exact C.setR (getD_or C.wf.roots (.inl rfl)) (rin_getD (rin_append.mp C.hd).1)
  | copy r q => exact C.setR (C.wf.rv t q) (hrv q)
  | drop r => exact C.setR (.inl rfl) (fun n e => by cases e)
  | same r q => exact C
  | size r => rw [step_size]; split <;> exact C
end K37
set_option Elab.async false
set_option linter.all false
set_option maxRecDepth 100000
set_option maxHeartbeats 4000000
set_option synthInstance.maxHeartbeats 1000000
set_option synthInstance.maxSize 1000000
namespace K37
open PySem PySem.Spec PyProof.Rows L2 Evl Pd Wl
theorem at_in {l : List PyData} {n r : Int} (h : inR n r) (e : (l.length : Int) = n) : atI l r = some (l.getD r.toNat .none) := by
  obtain ⟨a, b⟩ := h
  have c : r.toNat < l.length := by omega
  obtain ⟨j, rfl⟩ : ∃ j : Nat, r = j := ⟨r.toNat, by omega⟩
  exact atI_nat (by rw [Int.toNat_natCast] at c ⊢; rw [getD_lt c, List.getElem?_eq_getElem c])
theorem ix_in {l : List PyData} {n r : Int} (h : inR n r) (e : (l.length : Int) = n) : ixN l.length r = some r.toNat := by
  obtain ⟨a, b⟩ := h
  unfold ixN
  rw [if_pos a, if_pos (by omega)]
theorem OkR.sh {c : Nat} {v : PyData} (h : OkR c v) : Wl.clean v = true ∧ SeqAt.shaped v = true := by
  rcases h with rfl | ⟨n, rfl, _⟩
  · exact ⟨by simp, by decide +kernel⟩
  · refine ⟨by simp, ?_⟩
    have : PyData.strOk "object" = true := by decide +kernel
    simp [SeqAt.shaped, PyData.canLay0, PyData.canLayAll0, PyData.depth, PyData.depthAll, this]
section
variable {P : Program} {w : World} {K : PySem.W.Frag} {mg : Str → Option Value} {base : Heap} {C : Addr}
def D_forget (C : Addr) (ds : List PyData) (h : Lh) (P : Wv) : Prop := ∃ (st : PSt) (p : Pl) (S : List Int), ds = [rf p.a] ∧ PlainK C st p S h ∧ Clo st S ∧
  ∀ q h', PlainK C st { p with o := q } (met st) h' → Gp (p.F S) h (Pl.F { p with o := q } (met st)) h' → P .none h'
theorem cal_forget (S : SrcM K C "_forget" "Plain._forget" st_Plain_forget ["self"]) (T : Txt K mg) (TT : TTxt K C) (M__met : CalM P w K mg base CX0 2 C "_met" ["self"] (SpW K (D_met C))) : CalM P w K mg base CX0 3 C "_forget" ["self"] (SpW K (D_forget C)) := by
  have sc := sc_Plain_forget
  refine S.cal (k := 2) sc (SpW.len fun ds h P z => by obtain ⟨_, _, _, rfl, _⟩ := z; rfl) (fun f cdv A outer s H vs Q E hr h => ⟨_, (pss_cons (ps_set (i := 1) sc.nd rfl (by first | exact Or.inl rfl | exact Or.inr rfl) (pe_calM0 M__met TT.cl (hr.mono (by first | decide | omega)) pass0 (pv 0)))
  (pss_one (k_psfld (K := K) rfl (pv 0) (pe_dc (own := [("number", 2)]) rfl sc.nd (k_pi_list (K := K) rfl (pv 1)) (blkOk_by (by first | decide +kernel | kernel_rfl)) (fun _ _ _ _ _ => (pg_name (i := 2) sc.nd rfl (by first | exact Or.inl rfl | exact Or.inr rfl))) (fun _ _ _ _ _ => pts_nil) (fun _ _ _ _ _ => (pv 2)) (fun _ _ _ _ _ => (pe_dget (hu_of hr) (k_fld (K := K) rfl (pv 0) rfl) (pv 2) (fun _ _ => rfl)))) rfl))), h.enter fun ds lh P hD => ?_⟩)
  obtain ⟨st, p, Sk, rfl, A0, Cl, hk⟩ := hD
  simp [A0.a]
  refine ⟨st, p, Sk, rfl, A0, Cl, fun q h1 lx hq e => ?_⟩
  have hl := Cl.wf.metLen
  simp [e, lv]
  refine dcL_map (emb := PyData.int) (fun k => .inl k) (fun k => rf (p.ca k)) (by simp [e]) (by omega) Cl.wf.metNd (fun k hk F hF => ?_) ?_
  · simp [lx _ _ A0.a, lx _ _ A0.o, TT.cl, TT.n4, A0.val (Cl.met k hk)]
    exact hF
  · intro q2 hq2 _
    have A1 := A0.ex lx
    have ne : p.a ≠ q2 := fun z => by subst z; rw [A1.a] at hq2; cases hq2
    simp [up_ne ne, A1.a, TT.cl, TT.n4]
    refine hk q2 _ (A1.forget Cl.met met_nodup hq2) ⟨?_, fun x hx => ?_⟩
    · exact (lx.trans (Lx.new hq2)).kp.trans (Kp.put (by simp [Pl.F]))
    · unfold Pl.F at hx ⊢
      simp only [List.mem_cons, List.mem_append, List.mem_map] at hx ⊢
      rcases hx with h | h | h | h | h | ⟨k, hk, h⟩
      · exact .inl (.inl h)
      · exact .inl (.inr (.inl h))
      · exact .inl (.inr (.inr (.inl h)))
      · exact .inr (by rw [h]; exact lx.nn hq2)
      · exact .inl (.inr (.inr (.inr (.inr (.inl h)))))
      · exact .inl (.inr (.inr (.inr (.inr (.inr ⟨k, Cl.met k hk, h⟩)))))
def D_put (C : Addr) (ds : List PyData) (h : Lh) (P : Wv) : Prop := ∃ (st : PSt) (p : Pl) (S : List Int) (t : Nat) (ht : t < p.gs.length) (r s : Int), ds = [rf p.a, rf p.gs[t], .int r, .int s] ∧ PlainK C st p S h ∧ Clo st S ∧ inR (row st t).length r ∧ 0 ≤ s ∧ s ≤ 50 ∧
  ∀ q h', PlainK C (setR (newO st s) t r (ref st.count)) (p.add st.count q) (S ++ [(st.count : Int)]) h' → Gp (p.F S) h ((p.add st.count q).F (S ++ [(st.count : Int)])) h' → P (T1 "ok") h'
theorem cal_put (S : SrcM K C "_put" "Plain._put" st_Plain_put ["self", "registers", "place", "size"]) (T : Txt K mg) (TT : TTxt K C) : CalM P w K mg base CX0 1 C "_put" ["self", "registers", "place", "size"] (SpW K (D_put C)) := by
  have sc := sc_Plain_put
  refine S.cal (k := 0) sc (SpW.len fun ds h P z => by obtain ⟨_, _, _, _, _, _, _, rfl, _⟩ := z; rfl) (fun f cdv A outer s H vs Q E hr h => ⟨_, (pss_cons (ps_asg (pe_tup (pa_cons (pe_gl rfl T.c_WORD_plain) (pa_cons (k_fld (K := K) rfl (pv 0) rfl) pa_nil))) (pg_sub (pv 1) (pv 2) set_list))
  (pss_cons (ps_dput (hu_of hr) (k_fld (K := K) rfl (pv 0) rfl) (k_fld (K := K) rfl (pv 0) rfl) (pe_ref (pe_op op_rep (pe_lst (pa_cons pe_non pa_nil)) (pv 3))) rfl)
  (pss_cons (k_psfldaug (K := K) rfl (pv 0) pe_int in_add)
  (pss_one (ps_ret (pe_tup (pa_cons pe_str pa_nil))))))), h.enter fun ds lh P hD => ?_⟩)
  obtain ⟨st, p, Sk, t, ht, r, s, rfl, A0, Cl, hr, s0, s1, hk⟩ := hD
  obtain ⟨⟨a1, a2, a3, b1, b2, c1⟩, dg, dc, gg, cc, gc⟩ := A0.dist
  obtain ⟨g1, g2, g3, g4⟩ := dg t ht
  have hn : (st.count : Int) ∉ Sk := fun z => by have := (Cl.kn _ z).2; omega
  have lS := Cl.len
  simp [A0.a, TT.cl, TT.n5, TT.n4, A0.gr t ht, ix_in hr rfl, up_ne g1]
  refine ⟨by omega, by omega, by omega, fun q hq => ?_⟩
  have hq' : lh q = none := by
    have ne : q ≠ p.gs[t] := fun z => by subst z; rw [up_same] at hq; cases hq
    rw [up_ne ne] at hq; exact hq
  have nq : ∀ x o, lh x = some o → x ≠ q := fun x o e z => by subst z; rw [hq'] at e; cases e
  have pd : putD (kvsOf p.ca Sk) (.inl (st.count : Int)) (rf q) = kvsOf p.ca Sk ++ [(.inl (st.count : Int), rf q)] := putD_new (fun z => by
    obtain ⟨x, hx, e⟩ := List.mem_map.mp z
    obtain ⟨k, hk', rfl⟩ := List.mem_map.mp hx
    exact hn (by rw [← Sum.inl.inj e]; exact hk'))
  have rp : ∀ n : Nat, (List.replicate n [PyData.none]).flatten = List.replicate n PyData.none := fun n => by
    induction n with
    | zero => rfl
    | succ n ih => rw [List.replicate_succ, List.flatten_cons, ih, List.replicate_succ]; rfl
  simp [up_ne (nq _ _ A0.a), up_ne (nq _ _ A0.o), up_ne g1, up_ne g4, up_ne a3, A0.a, A0.o, TT.cl, TT.n5, TT.n4, pd, rp]
  refine ⟨by omega, ?_⟩
  refine hk q _ (A0.put ht r s hq' hn) ⟨?_, fun x hx => ?_⟩
  · exact (((Kp.refl _ _).put2 (by simp [Pl.F])).new2 hq').put2 (by simp [Pl.F]) |>.put2 (by simp [Pl.F])
  · unfold Pl.F at hx ⊢
    rw [List.map_append, map_add hn] at hx
    have can : (p.add st.count q).ca st.count = q := if_pos rfl
    simp only [List.map_cons, List.map_nil, can, List.mem_cons, List.mem_append, List.mem_singleton] at hx ⊢
    rcases hx with h | h | h | h | h | h | h | h
    · exact .inl (.inl h)
    · exact .inl (.inr (.inl h))
    · exact .inl (.inr (.inr (.inl h)))
    · exact .inl (.inr (.inr (.inr (.inl h))))
    · exact .inl (.inr (.inr (.inr (.inr (.inl h)))))
    · exact .inl (.inr (.inr (.inr (.inr (.inr h)))))
    · exact .inr (by rw [h]; exact hq')
    · cases h
end
end K37
set_option Elab.async false
set_option linter.all false
set_option maxRecDepth 100000
set_option maxHeartbeats 4000000
set_option synthInstance.maxHeartbeats 1000000
set_option synthInstance.maxSize 1000000
namespace K37
open PySem PySem.Spec PyProof.Rows L2 Evl Pd Wl
def Op.mvd : Op → Bool
  | .root _ _ => true
  | .take _ _ => true
  | .copy _ _ => true
  | .drop _ => true
  | .same _ _ => true
  | _ => false
def Op.tch : Op → Bool
  | .get _ _ => true
  | .set _ _ _ => true
  | .load _ _ _ => true
  | .store _ _ _ => true
  | _ => false
/-- the register and the index of an operation on an object -/
def Op.reg : Op → Int
  | .get r _ => r
  | .set r _ _ => r
  | .load _ r _ => r
  | .store r _ _ => r
  | .size r => r
  | _ => 0
def Op.idx : Op → Int
  | .get _ k => k
  | .set _ k _ => k
  | .load _ _ k => k
  | .store _ k _ => k
  | _ => 0
section
variable {P : Program} {w : World} {K : PySem.W.Frag} {mg : Str → Option Value} {base : Heap} {C : Addr}
def D_moved (C : Addr) (ds : List PyData) (h : Lh) (P : Wv) : Prop := ∃ (st : PSt) (p : Pl) (S : List Int) (t : Nat) (ht : t < p.gs.length) (op : Op), ds = [rf p.a, rf p.gs[t], op.d] ∧ PlainK C st p S h ∧ Clo st S ∧ op.ok st.roots.length (row st t).length ∧ op.mvd = true ∧
  ∀ h', PlainK C (step st t op).2 p S h' → Kp (p.F S) h h' → P (step st t op).1 h'
theorem cal_moved (S : SrcM K C "_moved" "Plain._moved" st_Plain_moved ["self", "registers", "operation"]) (T : Txt K mg) (TT : TTxt K C) : CalM P w K mg base CX0 1 C "_moved" ["self", "registers", "operation"] (SpW K (D_moved C)) := by
  have sc := sc_Plain_moved
  refine S.cal (k := 0) sc (SpW.len fun ds h P z => by obtain ⟨_, _, _, _, _, _, rfl, _⟩ := z; rfl) (fun f cdv A outer s H vs Q E hr h => ⟨_, (pss_cons (k_match (K := K) rfl (pv 2) (pmc_seq rfl sc.nd (CapOk.name (i := 3) rfl (by first | exact Or.inl rfl | exact Or.inr rfl) (by first | exact Or.inl rfl | exact Or.inr rfl) (CapOk.name (i := 4) rfl (by first | exact Or.inl rfl | exact Or.inr rfl) (by first | exact Or.inl rfl | exact Or.inr rfl) CapOk.nil)) (pss_one (ps_asg (pe_ix (k_ix_list (K := K) rfl) (pv 1) (pv 4) (fun _ _ => rfl)) (pg_sub (k_fld (K := K) rfl (pv 0) rfl) (pv 3) set_list)))
 (pmc_seq rfl sc.nd (CapOk.name (i := 5) rfl (by first | exact Or.inl rfl | exact Or.inr rfl) (by first | exact Or.inl rfl | exact Or.inr rfl) (CapOk.name (i := 3) rfl (by first | exact Or.inl rfl | exact Or.inr rfl) (by first | exact Or.inl rfl | exact Or.inr rfl) CapOk.nil)) (pss_one (ps_asg (pe_ix (k_ix_list (K := K) rfl) (k_fld (K := K) rfl (pv 0) rfl) (pv 3) (fun _ _ => rfl)) (pg_sub (pv 1) (pv 5) set_list)))
 (pmc_seq rfl sc.nd (CapOk.name (i := 5) rfl (by first | exact Or.inl rfl | exact Or.inr rfl) (by first | exact Or.inl rfl | exact Or.inr rfl) (CapOk.name (i := 4) rfl (by first | exact Or.inl rfl | exact Or.inr rfl) (by first | exact Or.inl rfl | exact Or.inr rfl) CapOk.nil)) (pss_one (ps_asg (pe_ix (k_ix_list (K := K) rfl) (pv 1) (pv 4) (fun _ _ => rfl)) (pg_sub (pv 1) (pv 5) set_list)))
 (pmc_seq rfl sc.nd (CapOk.name (i := 5) rfl (by first | exact Or.inl rfl | exact Or.inr rfl) (by first | exact Or.inl rfl | exact Or.inr rfl) CapOk.nil) (pss_one (ps_asg pe_non (pg_sub (pv 1) (pv 5) set_list)))
 (pmc_seq rfl sc.nd (CapOk.name (i := 6) rfl (by first | exact Or.inl rfl | exact Or.inr rfl) (by first | exact Or.inl rfl | exact Or.inr rfl) (CapOk.name (i := 7) rfl (by first | exact Or.inl rfl | exact Or.inr rfl) (by first | exact Or.inl rfl | exact Or.inr rfl) CapOk.nil)) (pss_one (ps_ret (pe_tup (pa_cons pe_str (pa_cons (pe_cmpR (k_eqD (K := K) rfl (hr.units)) (pe_ix (k_ix_list (K := K) rfl) (pv 1) (pv 6) (fun _ _ => rfl)) (pe_ix (k_ix_list (K := K) rfl) (pv 1) (pv 7) (fun _ _ => rfl)) (nomark _)) pa_nil)))))
 pmc_nil))))))
  (pss_one (ps_ret (pe_tup (pa_cons pe_str pa_nil))))), h.enter fun ds lh P hD => ?_⟩)
  obtain ⟨st, p, Sk, t, ht, op, rfl, A0, Cl, ok, mv, hk⟩ := hD
  have W := Cl.wf
  have hg := A0.gr t ht
  cases op with
  | root i r =>
    simp [A0.a, TT.cl, TT.n2, A0.r, hg, lv, at_in ok.2 rfl, ix_in ok.1 rfl]
    exact hk _ (A0.setRoot i (rv st t r)) (Kp.put (by simp [Pl.F]))
  | take r i =>
    simp [A0.a, TT.cl, TT.n2, A0.r, hg, lv, at_in ok.2 rfl, ix_in ok.1 rfl]
    exact hk _ (A0.setR ht r (st.roots.getD i.toNat .none)) (Kp.put (by simp [Pl.F]))
  | copy r q =>
    simp [A0.a, hg, lv, at_in ok.2 rfl, ix_in ok.1 rfl]
    exact hk _ (A0.setR ht r (rv st t q)) (Kp.put (by simp [Pl.F]))
  | drop r =>
    simp [A0.a, hg, lv, ix_in (show inR _ r from ok) rfl]
    exact hk _ (A0.setR ht r .none) (Kp.put (by simp [Pl.F]))
  | same r q =>
    have e1 := at_in ok.1 rfl
    have e2 := at_in ok.2 rfl
    have sn : ∀ v, OkR st.count v → snap lh v = v := fun v hv => by rcases hv with rfl | ⟨n, rfl, _⟩ <;> rfl
    have o1 := W.rv t r
    have o2 := W.rv t q
    have s1 := sn _ o1
    have s2 := sn _ o2
    unfold rv at o1 o2 s1 s2
    simp only [List.getD_eq_getElem?_getD] at e1 e2 o1 o2 s1 s2
    simp [A0.a, hg, lv, e1, e2, s1, s2, o1.sh, o2.sh]
    have := hk lh A0 (Kp.refl _ _)
    unfold step rv at this
    simpa using this
  | _ => cases mv
theorem OkV.rd {c : Nat} {v : PyData} (h : OkV c v) : Rd0 v := by
  rcases h with (rfl | ⟨n, rfl, _⟩) | ⟨i, rfl⟩
  · exact ⟨0, by decide, .non 0⟩
  · refine ⟨1, by decide, .tup 0 _ (by simp) fun d hd => ?_⟩
    simp only [List.mem_cons, List.not_mem_nil, or_false] at hd
    rcases hd with rfl | rfl
    · exact .str 0 _ (by decide +kernel)
    · exact .int 0 _
  · exact ⟨0, by decide, .int 0 _⟩
theorem isInt_isI (v : PyData) : isInt v = isI v := by cases v <;> rfl
def D_touched (C : Addr) (ds : List PyData) (h : Lh) (P : Wv) : Prop := ∃ (st : PSt) (p : Pl) (S : List Int) (t : Nat) (ht : t < p.gs.length) (op : Op) (n : Int), ds = [rf p.a, rf p.gs[t], op.d, rf (p.ca n), .int op.idx] ∧ PlainK C st p S h ∧ Clo st S ∧ op.ok st.roots.length (row st t).length ∧ op.tch = true ∧
  n ∈ S ∧ rv st t op.reg = ref n ∧ op.idx < (st.look n).length ∧
  ∀ h', PlainK C (step st t op).2 p S h' → Kp (p.F S) h h' → P (step st t op).1 h'
theorem onO_in {st : PSt} {n k : Int} {f : Int → PyData × PSt} (h : k < (st.look n).length) : onO st (ref n) k f = f n := by
  unfold onO
  rw [refOf_ref]
  simp only
  rw [if_neg (by omega)]
theorem cal_touched (S : SrcM K C "_touched" "Plain._touched" st_Plain_touched ["self", "registers", "operation", "cells", "index"]) (T : Txt K mg) (TT : TTxt K C) (C_is_integer : Cal P w K mg base CX0 1 "is_integer" ["value"] (SpW K D_is_integer)) : CalM P w K mg base CX0 2 C "_touched" ["self", "registers", "operation", "cells", "index"] (SpW K (D_touched C)) := by
  have sc := sc_Plain_touched
  refine S.cal (k := 1) sc (SpW.len fun ds h P z => by obtain ⟨_, _, _, _, _, _, _, rfl, _⟩ := z; rfl) (fun f cdv A outer s H vs Q E hr h => ⟨_, (pss_cons (k_match (K := K) rfl (pv 2) (pmc_seq rfl sc.nd (CapOk.any (CapOk.any CapOk.nil)) (pss_one (ps_ret (pe_tup (pa_cons pe_str (pa_cons (pe_ifExp (pt_val (pe_cal C_is_integer (hr.mono (by first | decide | omega)) rfl pass0 (pa_cons (pe_ix (k_ix_list (K := K) rfl) (pv 3) (pv 4) (fun _ _ => rfl)) pa_nil))) (pe_ix (k_ix_list (K := K) rfl) (pv 3) (pv 4) (fun _ _ => rfl)) pe_non) pa_nil)))))
 (pmc_seq rfl sc.nd (CapOk.any (CapOk.any (CapOk.name (i := 5) rfl (by first | exact Or.inl rfl | exact Or.inr rfl) (by first | exact Or.inl rfl | exact Or.inr rfl) CapOk.nil))) (pss_one (ps_asg (pv 5) (pg_sub (pv 3) (pv 4) set_list)))
 (pmc_seq rfl sc.nd (CapOk.name (i := 6) rfl (by first | exact Or.inl rfl | exact Or.inr rfl) (by first | exact Or.inl rfl | exact Or.inr rfl) (CapOk.any (CapOk.any CapOk.nil))) (pss_one (ps_asg (pe_ifExp (pt_val (pe_cal C_is_integer (hr.mono (by first | decide | omega)) rfl pass0 (pa_cons (pe_ix (k_ix_list (K := K) rfl) (pv 3) (pv 4) (fun _ _ => rfl)) pa_nil))) pe_non (pe_ix (k_ix_list (K := K) rfl) (pv 3) (pv 4) (fun _ _ => rfl))) (pg_sub (pv 1) (pv 6) set_list)))
 (pmc_seq rfl sc.nd (CapOk.any (CapOk.any (CapOk.name (i := 7) rfl (by first | exact Or.inl rfl | exact Or.inr rfl) (by first | exact Or.inl rfl | exact Or.inr rfl) CapOk.nil))) (pss_one (ps_asg (pe_ix (k_ix_list (K := K) rfl) (pv 1) (pv 7) (fun _ _ => rfl)) (pg_sub (pv 3) (pv 4) set_list)))
 pmc_nil)))))
  (pss_one (ps_ret (pe_tup (pa_cons pe_str pa_nil))))), h.enter fun ds lh P hD => ?_⟩)
  obtain ⟨st, p, Sk, t, ht, op, n, rfl, A0, Cl, ok, mv, hn, hv, hi, hk⟩ := hD
  have W := Cl.wf
  have hg := A0.gr t ht
  have hc := A0.oc n hn
  have okc : OkV st.count (cell st n op.idx) := W.cell op.idx (Cl.kn n hn)
  have rdc := okc.rd
  have h0 : 0 ≤ op.idx := by
    cases op with
    | get r k => exact ok.2.1
    | set r k x => exact ok.2.1.1
    | load q r k => exact ok.2.2.1
    | store r k q => exact ok.2.1.1
    | _ => cases mv
  have e1 : atI (st.look n) op.idx = some (cell st n op.idx) := at_in ⟨h0, hi⟩ rfl
  have e2 : ixN (st.look n).length op.idx = some op.idx.toNat := ix_in ⟨h0, hi⟩ rfl
  cases op with
  | get r k =>
    have hs : step st t (.get r k) = (.tuple [.str "value", onI (cell st n k)], st) := by
      show onO st (rv st t r) k _ = _
      rw [show rv st t r = ref n from hv]; exact onO_in hi
    rw [hs] at hk
    have hk := hk lh A0 (Kp.refl _ _)
    simp only [Op.idx] at e1 e2 rdc hk ⊢
    simp [hc, lv, e1, D_is_integer, rdc, isInt_isI]
    unfold onI at hk
    refine ⟨fun c => ?_, fun c => ?_⟩
    · rw [if_pos c] at hk; simpa using hk
    · rw [c] at hk; simpa using hk
  | set r k x =>
    have hs : step st t (.set r k x) = (T1 "ok", setC st n k (.int x)) := by
      show onO st (rv st t r) k _ = _
      rw [show rv st t r = ref n from hv]; exact onO_in hi
    rw [hs] at hk
    simp only [Op.idx] at e1 e2 rdc ⊢
    simp [hc, lv, e2]
    exact hk _ (A0.setC hn k (.int x)) (Kp.put (A0.memca hn))
  | load q r k =>
    have hs : step st t (.load q r k) = (T1 "ok", setR st t q (onN (cell st n k))) := by
      show onO st (rv st t r) k _ = _
      rw [show rv st t r = ref n from hv]; exact onO_in hi
    rw [hs] at hk
    simp only [Op.idx] at e1 e2 rdc ⊢
    have hk := hk _ (A0.setR ht q (onN (cell st n k))) (Kp.put (by simp [Pl.F]))
    simp [hc, lv, e1, D_is_integer, rdc, isInt_isI, hg, ix_in ok.1 rfl]
    unfold onN at hk
    refine ⟨fun c => ?_, fun c => ?_⟩
    · rw [if_pos c] at hk; simpa using hk
    · rw [c] at hk; simpa using hk
  | store r k q =>
    have hs : step st t (.store r k q) = (T1 "ok", setC st n k (rv st t q)) := by
      show onO st (rv st t r) k _ = _
      rw [show rv st t r = ref n from hv]; exact onO_in hi
    rw [hs] at hk
    simp only [Op.idx] at e1 e2 rdc ⊢
    simp [hc, lv, e2, hg, at_in ok.2.2 rfl]
    exact hk _ (A0.setC hn k (rv st t q)) (Kp.put (A0.memca hn))
  | _ => cases mv
end
end K37
set_option Elab.async false
set_option linter.all false
set_option maxRecDepth 100000
set_option maxHeartbeats 4000000
set_option synthInstance.maxHeartbeats 1000000
set_option synthInstance.maxSize 1000000
namespace K37
open PySem PySem.Spec PyProof.Rows L2 Evl Pd Wl
section
variable {P : Program} {w : World} {K : PySem.W.Frag} {mg : Str → Option Value} {base : Heap} {C : Addr}
def Op.obj : Op → Bool
  | .size _ => true
  | op => op.tch
def D_on_object (C : Addr) (ds : List PyData) (h : Lh) (P : Wv) : Prop := ∃ (st : PSt) (p : Pl) (S : List Int) (t : Nat) (ht : t < p.gs.length) (op : Op), ds = [rf p.a, rf p.gs[t], op.d] ∧ PlainK C st p S h ∧ Clo st S ∧ op.ok st.roots.length (row st t).length ∧ op.obj = true ∧
  ∀ h', PlainK C (step st t op).2 p S h' → Kp (p.F S) h h' → P (step st t op).1 h'
theorem cal_on_object (S : SrcM K C "_on_object" "Plain._on_object" st_Plain_on_object ["self", "registers", "operation"]) (T : Txt K mg) (TT : TTxt K C) (M__touched : CalM P w K mg base CX0 2 C "_touched" ["self", "registers", "operation", "cells", "index"] (SpW K (D_touched C))) : CalM P w K mg base CX0 3 C "_on_object" ["self", "registers", "operation"] (SpW K (D_on_object C)) := by
  have sc := sc_Plain_on_object
  refine S.cal (k := 2) sc (SpW.len fun ds h P z => by obtain ⟨_, _, _, _, _, _, rfl, _⟩ := z; rfl) (fun f cdv A outer s H vs Q E hr h => ⟨_, (pss_cons (ps_set (i := 3) sc.nd rfl (by first | exact Or.inl rfl | exact Or.inr rfl) (pe_ifExp (pt_cmpR op_eq (pe_ix (k_ix_tup (K := K) rfl) (pv 2) pe_int (fun _ _ => rfl)) pe_str (nomark _)) pe_int pe_int))
  (pss_cons (ps_set (i := 4) sc.nd rfl (by first | exact Or.inl rfl | exact Or.inr rfl) (pe_ix (k_ix_list (K := K) rfl) (pv 1) (pe_ix (k_ix_tup (K := K) rfl) (pv 2) (pv 3) (fun _ _ => rfl)) (fun _ _ => rfl)))
  (pss_cons (ps_if (pt_cmpR op_isN (pv 4) pe_non (nomark _)) (pss_one (ps_ret (pe_tup (pa_cons pe_str pa_nil)))) pss_nil)
  (pss_cons (ps_set (i := 5) sc.nd rfl (by first | exact Or.inl rfl | exact Or.inr rfl) (pe_dget (hu_of hr) (k_fld (K := K) rfl (pv 0) rfl) (pe_ix (k_ix_tup (K := K) rfl) (pv 4) pe_int (fun _ _ => rfl)) (fun _ _ => rfl)))
  (pss_cons (ps_if (pt_cmpR op_eq (pe_ix (k_ix_tup (K := K) rfl) (pv 2) pe_int (fun _ _ => rfl)) pe_str (nomark _)) (pss_one (ps_ret (pe_tup (pa_cons pe_str (pa_cons (pe_callB (k_len_seq (K := K) rfl) (by rfl) T.n_len PySem.boot_len (pa_cons (pv 5) pa_nil)) pa_nil))))) pss_nil)
  (pss_cons (ps_set (i := 6) sc.nd rfl (by first | exact Or.inl rfl | exact Or.inr rfl) (pe_ix (k_ix_tup (K := K) rfl) (pv 2) (pe_op op_add (pv 3) pe_int) (fun _ _ => rfl)))
  (pss_cons (ps_if (pt_cmpR op_ge (pv 6) (pe_callB (k_len_seq (K := K) rfl) (by rfl) T.n_len PySem.boot_len (pa_cons (pv 5) pa_nil)) (nomark _)) (pss_one (ps_ret (pe_tup (pa_cons pe_str pa_nil)))) pss_nil)
  (pss_one (ps_ret (pe_calM M__touched TT.cl (hr.mono (by first | decide | omega)) pass0 (pv 0) (pa_cons (pv 1) (pa_cons (pv 2) (pa_cons (pv 5) (pa_cons (pv 6) pa_nil)))))))))))))), h.enter fun ds lh P hD => ?_⟩)
  obtain ⟨st, p, Sk, t, ht, op, rfl, A0, Cl, ok, ob, hk⟩ := hD
  have W := Cl.wf
  have hg := A0.gr t ht
  have hin : inR (row st t).length op.reg := by
    cases op with
    | get r k => exact ok.1
    | set r k x => exact ok.1
    | load q r k => exact ok.2.1
    | store r k q => exact ok.1
    | size r => exact ok
    | _ => cases ob
  have e1 : atI (row st t) op.reg = some (rv st t op.reg) := at_in hin rfl
  have orv := W.rv t op.reg
  have hdin : ∀ n, rv st t op.reg = ref n → n ∈ Sk := fun n e => by
    refine Cl.hd (rv st t op.reg) ?_ n (by rw [e]; rfl)
    unfold held
    refine List.mem_append_right _ (List.mem_flatten.mpr ⟨row st t, row_mem (by rw [← A0.gl]; exact ht), ?_⟩)
    unfold rv
    exact getD_mem (by have := hin.2; have := hin.1; omega)
  cases op with
  | get r k =>
    simp only [Op.reg, Op.d] at e1 orv hdin ⊢
    rcases orv with hv | ⟨n, hv, kn⟩
    · rw [hv] at e1
      have hs : step st t (.get r k) = (T1 "none", st) := by
        show onO st (rv st t r) k _ = _
        rw [hv]; rfl
      rw [hs] at hk
      simp [A0.a, hg, lv, e1]
      exact hk lh A0 (Kp.refl _ _)
    · rw [hv] at e1
      have hn := hdin n hv
      have hc := A0.oc n hn
      simp [A0.a, A0.o, hg, lv, e1, TT.cl, TT.n4, A0.val hn, hc, qv]
      refine wCond.p (fun c => ?_) fun c => ?_
      · have hs : step st t (.get r k) = (T1 "range", st) := by
          show onO st (rv st t r) k _ = _
          rw [hv]
          unfold onO
          rw [refOf_ref]
          simp only
          rw [if_pos c]
        rw [hs] at hk
        exact hk lh A0 (Kp.refl _ _)
      · exact ⟨st, p, Sk, t, ht, .get r k, n, rfl, A0, Cl, ok, rfl, hn, hv, by show k < _; omega, hk⟩
  | set r k x =>
    simp only [Op.reg, Op.d] at e1 orv hdin ⊢
    rcases orv with hv | ⟨n, hv, kn⟩
    · rw [hv] at e1
      have hs : step st t (.set r k x) = (T1 "none", st) := by
        show onO st (rv st t r) k _ = _
        rw [hv]; rfl
      rw [hs] at hk
      simp [A0.a, hg, lv, e1]
      exact hk lh A0 (Kp.refl _ _)
    · rw [hv] at e1
      have hn := hdin n hv
      have hc := A0.oc n hn
      simp [A0.a, A0.o, hg, lv, e1, TT.cl, TT.n4, A0.val hn, hc, qv]
      refine wCond.p (fun c => ?_) fun c => ?_
      · have hs : step st t (.set r k x) = (T1 "range", st) := by
          show onO st (rv st t r) k _ = _
          rw [hv]
          unfold onO
          rw [refOf_ref]
          simp only
          rw [if_pos c]
        rw [hs] at hk
        exact hk lh A0 (Kp.refl _ _)
      · exact ⟨st, p, Sk, t, ht, .set r k x, n, rfl, A0, Cl, ok, rfl, hn, hv, by show k < _; omega, hk⟩
  | load q r k =>
    simp only [Op.reg, Op.d] at e1 orv hdin ⊢
    rcases orv with hv | ⟨n, hv, kn⟩
    · rw [hv] at e1
      have hs : step st t (.load q r k) = (T1 "none", st) := by
        show onO st (rv st t r) k _ = _
        rw [hv]; rfl
      rw [hs] at hk
      simp [A0.a, hg, lv, e1]
      exact hk lh A0 (Kp.refl _ _)
    · rw [hv] at e1
      have hn := hdin n hv
      have hc := A0.oc n hn
      simp [A0.a, A0.o, hg, lv, e1, TT.cl, TT.n4, A0.val hn, hc, qv]
      refine wCond.p (fun c => ?_) fun c => ?_
      · have hs : step st t (.load q r k) = (T1 "range", st) := by
          show onO st (rv st t r) k _ = _
          rw [hv]
          unfold onO
          rw [refOf_ref]
          simp only
          rw [if_pos c]
        rw [hs] at hk
        exact hk lh A0 (Kp.refl _ _)
      · exact ⟨st, p, Sk, t, ht, .load q r k, n, rfl, A0, Cl, ok, rfl, hn, hv, by show k < _; omega, hk⟩
  | store r k q =>
    simp only [Op.reg, Op.d] at e1 orv hdin ⊢
    rcases orv with hv | ⟨n, hv, kn⟩
    · rw [hv] at e1
      have hs : step st t (.store r k q) = (T1 "none", st) := by
        show onO st (rv st t r) k _ = _
        rw [hv]; rfl
      rw [hs] at hk
      simp [A0.a, hg, lv, e1]
      exact hk lh A0 (Kp.refl _ _)
    · rw [hv] at e1
      have hn := hdin n hv
      have hc := A0.oc n hn
      simp [A0.a, A0.o, hg, lv, e1, TT.cl, TT.n4, A0.val hn, hc, qv]
      refine wCond.p (fun c => ?_) fun c => ?_
      · have hs : step st t (.store r k q) = (T1 "range", st) := by
          show onO st (rv st t r) k _ = _
          rw [hv]
          unfold onO
          rw [refOf_ref]
          simp only
          rw [if_pos c]
        rw [hs] at hk
        exact hk lh A0 (Kp.refl _ _)
      · exact ⟨st, p, Sk, t, ht, .store r k q, n, rfl, A0, Cl, ok, rfl, hn, hv, by show k < _; omega, hk⟩
  | size r =>
    simp only [Op.reg, Op.d] at e1 orv hdin ⊢
    rcases orv with hv | ⟨n, hv, kn⟩
    · rw [hv] at e1
      have hs : step st t (.size r) = (T1 "none", st) := by rw [step_size, hv]; rfl
      rw [hs] at hk
      simp [A0.a, hg, lv, e1]
      exact hk lh A0 (Kp.refl _ _)
    · rw [hv] at e1
      have hn := hdin n hv
      have hc := A0.oc n hn
      have hs : step st t (.size r) = (.tuple [.str "size", .int ((st.look n).length : Int)], st) := by rw [step_size, hv]; rfl
      rw [hs] at hk
      simp [A0.a, A0.o, hg, lv, e1, TT.cl, TT.n4, A0.val hn, hc, qv]
      exact hk lh A0 (Kp.refl _ _)
  | _ => cases ob
end
end K37
set_option Elab.async false
set_option linter.all false
set_option maxRecDepth 100000
set_option maxHeartbeats 4000000
set_option synthInstance.maxHeartbeats 1000000
set_option synthInstance.maxSize 1000000
namespace K37
open PySem PySem.Spec PyProof.Rows L2 Evl Pd Wl
/-- the instance, its objects those that are met -/
abbrev PlainAt (C : Addr) (st : PSt) (p : Pl) (h : Lh) : Prop := PlainK C st p (met st) h
abbrev Pl.G (p : Pl) (st : PSt) : List Addr := p.F (met st)
section
variable {P : Program} {w : World} {K : PySem.W.Frag} {mg : Str → Option Value} {base : Heap} {C aF : Addr} {es : Array DictEntry} {nF : Nat}
def D_do (C : Addr) (ds : List PyData) (h : Lh) (P : Wv) : Prop := ∃ (st : PSt) (p : Pl) (t : Nat) (op : Op), ds = [rf p.a, .int (t + 1), op.d] ∧ PlainAt C st p h ∧ Wf st ∧ t < st.regs.length ∧ op.ok st.roots.length (row st t).length ∧ st.count < 1000 ∧
  ∀ p' h', p'.a = p.a → PlainAt C (step st t op).2 p' h' → Gp (p.G st) h (p'.G (step st t op).2) h' → P (step st t op).1 h'
theorem cal_do (S : SrcM K C "do" "Plain.do" st_Plain_do ["self", "thread", "operation"]) (T : Txt K mg) (TT : TTxt K C) (C_is_operation : CalK P w K mg base CX0 3 "is_operation" ["value", "roots", "registers"] 1 ["roots", "registers"] (SpW K D_is_op))
    (M_fits : CalM P w K mg base CX0 4 C "fits" ["self", "size"] (SpW K (D_fits C))) (M__put : CalM P w K mg base CX0 1 C "_put" ["self", "registers", "place", "size"] (SpW K (D_put C))) (M__moved : CalM P w K mg base CX0 1 C "_moved" ["self", "registers", "operation"] (SpW K (D_moved C)))
    (M__on_object : CalM P w K mg base CX0 3 C "_on_object" ["self", "registers", "operation"] (SpW K (D_on_object C))) (M__forget : CalM P w K mg base CX0 3 C "_forget" ["self"] (SpW K (D_forget C))) : CalM P w K mg base CX0 5 C "do" ["self", "thread", "operation"] (SpW K (D_do C)) := by
  have sc := sc_Plain_do
  refine S.cal (k := 4) sc (SpW.len fun ds h P z => by obtain ⟨_, _, _, _, rfl, _⟩ := z; rfl) (fun f cdv A outer s H vs Q E hr h => ⟨_, (pss_cons (ps_set (i := 3) sc.nd rfl (by first | exact Or.inl rfl | exact Or.inr rfl) (pe_ix (k_ix_list (K := K) rfl) (k_fld (K := K) rfl (pv 0) rfl) (pe_op op_sub (pv 1) pe_int) (fun _ _ => rfl)))
  (pss_cons (ps_if (pt_not (pt_val (pe_calK C_is_operation (hr.mono (by first | decide | omega)) rfl pass0 (pa_cons (pv 2) pa_nil) (pk_cons (pe_callB (k_len_seq (K := K) rfl) (by rfl) T.n_len PySem.boot_len (pa_cons (k_fld (K := K) rfl (pv 0) rfl) pa_nil)) (pk_cons (pe_callB (k_len_seq (K := K) rfl) (by rfl) T.n_len PySem.boot_len (pa_cons (pv 3) pa_nil)) pk_nil))))) (pss_one Wl.ps_never) pss_nil)
  (pss_cons (ps_if (pt_cmpR op_eq (pe_ix (k_ix_tup (K := K) rfl) (pv 2) pe_int (fun _ _ => rfl)) pe_str (nomark _)) (pss_cons (ps_if (pt_not (pt_val (pe_calM M_fits TT.cl (hr.mono (by first | decide | omega)) pass0 (pv 0) (pa_cons (pe_ix (k_ix_tup (K := K) rfl) (pv 2) pe_int (fun _ _ => rfl)) pa_nil)))) (pss_one (ps_ret (pe_tup (pa_cons pe_str pa_nil)))) pss_nil)
  (pss_one (ps_set (i := 4) sc.nd rfl (by first | exact Or.inl rfl | exact Or.inr rfl) (pe_calM M__put TT.cl (hr.mono (by first | decide | omega)) pass0 (pv 0) (pa_cons (pv 3) (pa_cons (pe_ix (k_ix_tup (K := K) rfl) (pv 2) pe_int (fun _ _ => rfl)) (pa_cons (pe_ix (k_ix_tup (K := K) rfl) (pv 2) pe_int (fun _ _ => rfl)) pa_nil))))))) (pss_one (ps_if (pt_cmpR (k_in_seq (K := K) rfl) (pe_ix (k_ix_tup (K := K) rfl) (pv 2) pe_int (fun _ _ => rfl)) (pe_tup (pa_cons pe_str (pa_cons pe_str (pa_cons pe_str (pa_cons pe_str (pa_cons pe_str pa_nil)))))) (by rfl)) (pss_one (ps_set (i := 4) sc.nd rfl (by first | exact Or.inl rfl | exact Or.inr rfl) (pe_calM M__on_object TT.cl (hr.mono (by first | decide | omega)) pass0 (pv 0) (pa_cons (pv 3) (pa_cons (pv 2) pa_nil))))) (pss_one (ps_set (i := 4) sc.nd rfl (by first | exact Or.inl rfl | exact Or.inr rfl) (pe_calM M__moved TT.cl (hr.mono (by first | decide | omega)) pass0 (pv 0) (pa_cons (pv 3) (pa_cons (pv 2) pa_nil))))))))
  (pss_cons (ps_expr (pe_calM0 M__forget TT.cl (hr.mono (by first | decide | omega)) pass0 (pv 0)))
  (pss_one (ps_ret (pv 4))))))), h.enter fun ds lh P hD => ?_⟩)
  obtain ⟨st, p, t, op, rfl, A0, W, ht, ok, hc, hk⟩ := hD
  have gl := A0.gl
  have ht' : t < p.gs.length := by omega
  have hg := A0.gr t ht'
  have e1 : atI (p.gs.map fun x => rf x) (t : Int) = some (rf p.gs[t]) := atI_nat (by rw [List.getElem?_map, List.getElem?_eq_getElem ht']; rfl)
  have Cl := W.clo
  have oi := Op.isOp ok
  have ord := op.rd
  have fin : ∀ (st' : PSt) (S' : List Int) (p' : Pl) (h' : Lh), p'.a = p.a → PlainK C st' p' S' h' → Clo st' S' → Gp (p.G st) lh (p'.F S') h' → (step st t op).2 = st' → D_forget C [rf p.a] h' fun _ h2 => P (step st t op).1 h2 := fun st' S' p' h' ea A' C' g e => by
    refine ⟨st', p', S', by rw [ea], A', C', fun q h2 A2 g2 => ?_⟩
    subst e
    exact hk { p' with o := q } h2 ea A2 (g.trans g2)
  cases op with
  | put r s =>
    simp only [Op.d] at oi ord ⊢
    simp [A0.a, A0.g, A0.r, TT.cl, TT.n2, TT.n3, lv, qv, e1, hg, D_is_op, ord, oi]
    refine ⟨st, p, met st, s, rfl, A0, Cl, fun h1 lx => ?_⟩
    have A1 := A0.ex lx
    simp
    refine ⟨fun c => ?_, fun c => ?_⟩
    · have c' : fits st s = true := by simpa using c
      have hs : step st t (.put r s) = (T1 "ok", setR (newO st s) t r (ref st.count)) := by rw [step_put, if_pos c']
      have s50 := ok.2.2
      simp [A1.a]
      refine ⟨st, p, met st, t, ht', r, s, rfl, A1, Cl, ok.1, by have := ok.2.1; omega, s50, fun q h2 A2 g2 => ?_⟩
      simp [A2.a]
      have ea : po C (setR (newO st s) t r (ref st.count)) p.r p.g p.o = po C (setR (newO st s) t r (ref st.count)) p.r p.g p.o := rfl
      rw [hs] at fin
      have a2 : h2 p.a = some (po C (setR (newO st s) t r (ref st.count)) p.r p.g p.o) := A2.a
      simp [a2]
      exact fin _ _ (p.add st.count q) h2 rfl A2 (Cl.put s50 hc) (Gp.trans (h1 := h1) ⟨lx.kp, fun x m => .inl m⟩ g2) rfl
    · have hs : step st t (.put r s) = (T1 "full", st) := by rw [step_put, if_neg (by simpa using c)]
      rw [hs] at hk
      exact hk p h1 rfl A1 ⟨lx.kp, fun x m => .inl m⟩
  | get r k =>
    simp only [Op.d] at oi ord ⊢
    simp [A0.a, A0.g, A0.r, TT.cl, TT.n2, TT.n3, lv, qv, e1, hg, D_is_op, ord, oi, Wl.tv, Wl.flat1, Wl.in1, Wl.eq1]
    refine ⟨st, p, met st, t, ht', .get r k, rfl, A0, Cl, ok, rfl, fun h1 A1 k1 => ?_⟩
    simp [A1.a]
    exact fin _ (met st) p h1 rfl A1 (Cl.step t fun r s z => by cases z) ⟨k1, fun x m => .inl m⟩ rfl
  | set r k x =>
    simp only [Op.d] at oi ord ⊢
    simp [A0.a, A0.g, A0.r, TT.cl, TT.n2, TT.n3, lv, qv, e1, hg, D_is_op, ord, oi, Wl.tv, Wl.flat1, Wl.in1, Wl.eq1]
    refine ⟨st, p, met st, t, ht', .set r k x, rfl, A0, Cl, ok, rfl, fun h1 A1 k1 => ?_⟩
    simp [A1.a]
    exact fin _ (met st) p h1 rfl A1 (Cl.step t fun r s z => by cases z) ⟨k1, fun x m => .inl m⟩ rfl
  | load q r k =>
    simp only [Op.d] at oi ord ⊢
    simp [A0.a, A0.g, A0.r, TT.cl, TT.n2, TT.n3, lv, qv, e1, hg, D_is_op, ord, oi, Wl.tv, Wl.flat1, Wl.in1, Wl.eq1]
    refine ⟨st, p, met st, t, ht', .load q r k, rfl, A0, Cl, ok, rfl, fun h1 A1 k1 => ?_⟩
    simp [A1.a]
    exact fin _ (met st) p h1 rfl A1 (Cl.step t fun r s z => by cases z) ⟨k1, fun x m => .inl m⟩ rfl
  | store r k q =>
    simp only [Op.d] at oi ord ⊢
    simp [A0.a, A0.g, A0.r, TT.cl, TT.n2, TT.n3, lv, qv, e1, hg, D_is_op, ord, oi, Wl.tv, Wl.flat1, Wl.in1, Wl.eq1]
    refine ⟨st, p, met st, t, ht', .store r k q, rfl, A0, Cl, ok, rfl, fun h1 A1 k1 => ?_⟩
    simp [A1.a]
    exact fin _ (met st) p h1 rfl A1 (Cl.step t fun r s z => by cases z) ⟨k1, fun x m => .inl m⟩ rfl
  | root i r =>
    simp only [Op.d] at oi ord ⊢
    simp [A0.a, A0.g, A0.r, TT.cl, TT.n2, TT.n3, lv, qv, e1, hg, D_is_op, ord, oi, Wl.tv, Wl.flat1, Wl.in1, Wl.eq1]
    refine ⟨st, p, met st, t, ht', .root i r, rfl, A0, Cl, ok, rfl, fun h1 A1 k1 => ?_⟩
    simp [A1.a]
    exact fin _ (met st) p h1 rfl A1 (Cl.step t fun r s z => by cases z) ⟨k1, fun x m => .inl m⟩ rfl
  | take r i =>
    simp only [Op.d] at oi ord ⊢
    simp [A0.a, A0.g, A0.r, TT.cl, TT.n2, TT.n3, lv, qv, e1, hg, D_is_op, ord, oi, Wl.tv, Wl.flat1, Wl.in1, Wl.eq1]
    refine ⟨st, p, met st, t, ht', .take r i, rfl, A0, Cl, ok, rfl, fun h1 A1 k1 => ?_⟩
    simp [A1.a]
    exact fin _ (met st) p h1 rfl A1 (Cl.step t fun r s z => by cases z) ⟨k1, fun x m => .inl m⟩ rfl
  | copy r q =>
    simp only [Op.d] at oi ord ⊢
    simp [A0.a, A0.g, A0.r, TT.cl, TT.n2, TT.n3, lv, qv, e1, hg, D_is_op, ord, oi, Wl.tv, Wl.flat1, Wl.in1, Wl.eq1]
    refine ⟨st, p, met st, t, ht', .copy r q, rfl, A0, Cl, ok, rfl, fun h1 A1 k1 => ?_⟩
    simp [A1.a]
    exact fin _ (met st) p h1 rfl A1 (Cl.step t fun r s z => by cases z) ⟨k1, fun x m => .inl m⟩ rfl
  | drop r =>
    simp only [Op.d] at oi ord ⊢
    simp [A0.a, A0.g, A0.r, TT.cl, TT.n2, TT.n3, lv, qv, e1, hg, D_is_op, ord, oi, Wl.tv, Wl.flat1, Wl.in1, Wl.eq1]
    refine ⟨st, p, met st, t, ht', .drop r, rfl, A0, Cl, ok, rfl, fun h1 A1 k1 => ?_⟩
    simp [A1.a]
    exact fin _ (met st) p h1 rfl A1 (Cl.step t fun r s z => by cases z) ⟨k1, fun x m => .inl m⟩ rfl
  | same r q =>
    simp only [Op.d] at oi ord ⊢
    simp [A0.a, A0.g, A0.r, TT.cl, TT.n2, TT.n3, lv, qv, e1, hg, D_is_op, ord, oi, Wl.tv, Wl.flat1, Wl.in1, Wl.eq1]
    refine ⟨st, p, met st, t, ht', .same r q, rfl, A0, Cl, ok, rfl, fun h1 A1 k1 => ?_⟩
    simp [A1.a]
    exact fin _ (met st) p h1 rfl A1 (Cl.step t fun r s z => by cases z) ⟨k1, fun x m => .inl m⟩ rfl
  | size r =>
    simp only [Op.d] at oi ord ⊢
    simp [A0.a, A0.g, A0.r, TT.cl, TT.n2, TT.n3, lv, qv, e1, hg, D_is_op, ord, oi, Wl.tv, Wl.flat1, Wl.in1, Wl.eq1]
    refine ⟨st, p, met st, t, ht', .size r, rfl, A0, Cl, ok, rfl, fun h1 A1 k1 => ?_⟩
    simp [A1.a]
    exact fin _ (met st) p h1 rfl A1 (Cl.step t fun r s z => by cases z) ⟨k1, fun x m => .inl m⟩ rfl
end
end K37
set_option Elab.async false
set_option linter.all false
set_option maxRecDepth 100000
set_option maxHeartbeats 4000000
set_option synthInstance.maxHeartbeats 1000000
set_option synthInstance.maxSize 1000000
namespace K37
open PySem PySem.Spec PyProof.Rows L2 Evl Pd Wl
/-- a new store -/
def st0 (cells slots : Int) (R G T : Nat) : PSt := { cells := cells, slots := slots, roots := List.replicate R .none, regs := List.replicate T (List.replicate G .none), look := fun _ => [], count := 0 }
theorem scan_nones : ∀ {l : List PyData} {f : List Int}, (∀ v ∈ l, v = .none) → scan l f = f
  | [], _, _ => rfl
  | v :: l, f, h => by
    rw [scan_cons, h v (by simp), show add1 f .none = f from rfl]
    exact scan_nones fun u hu => h u (List.mem_cons_of_mem _ hu)
theorem held0 {cells slots : Int} {R G T : Nat} : ∀ v ∈ held (st0 cells slots R G T), v = .none := fun v hv => by
  rcases List.mem_append.mp hv with h | h
  · exact (List.mem_replicate.mp h).2
  · obtain ⟨r, hr, hv⟩ := List.mem_flatten.mp h
    rw [(List.mem_replicate.mp hr).2] at hv
    exact (List.mem_replicate.mp hv).2
theorem met0 {cells slots : Int} {R G T : Nat} : met (st0 cells slots R G T) = [] := by
  unfold met
  rw [scan_nones held0]
  rfl
theorem wf0 {cells slots : Int} {R G T : Nat} (hR : R ≤ 20) (hG : G ≤ 20) (hT : T ≤ 20) : Wf (st0 cells slots R G T) where
  count := Nat.zero_le _
  roots := fun v hv => .inl (List.mem_replicate.mp hv).2
  regs := fun r hr v hv => by
    rw [(List.mem_replicate.mp hr).2] at hv
    exact .inl (List.mem_replicate.mp hv).2
  look := fun k hk => by have h1 := hk.1; have h2 : k < (0 : Nat) := hk.2; omega
  size := by
    show (List.replicate R PyData.none).length + (List.replicate T (List.replicate G PyData.none)).flatten.length ≤ 1000
    rw [List.length_flatten, List.map_replicate, List.length_replicate, List.length_replicate, List.sum_replicate_nat]
    have : T * G ≤ 20 * 20 := Nat.mul_le_mul hT hG
    omega
  thr := by
    show (List.replicate T _).length ≤ 1000
    rw [List.length_replicate]; omega
theorem shp0 {cells slots : Int} {R G T : Nat} : Shp (st0 cells slots R G T) R G := ⟨List.length_replicate, fun r hr => by rw [(List.mem_replicate.mp hr).2]; exact List.length_replicate⟩
theorem rep1 (n : Nat) : (List.replicate n [PyData.none]).flatten = List.replicate n PyData.none := by
  induction n with
  | zero => rfl
  | succ n ih => rw [List.replicate_succ, List.flatten_cons, ih, List.replicate_succ]; rfl
section
variable {P : Program} {w : World} {K : PySem.W.Frag} {mg : Str → Option Value} {base : Heap} {C : Addr}
def D_init (C : Addr) (ds : List PyData) (h : Lh) (P : Wv) : Prop := ∃ (x : Addr) (cells slots : Int) (R G T : Nat), ds = [rf x, .int cells, .int slots, .int R, .int G, .int T] ∧ h x = some (.ins C []) ∧ R ≤ 20 ∧ G ≤ 20 ∧ T ≤ 20 ∧
  ∀ p h', p.a = x → PlainAt C (st0 cells slots R G T) p h' → Gp [x] h (p.G (st0 cells slots R G T)) h' → P .none h'
theorem cal_init (S : SrcCK K mg "Plain" C "Plain.__init__" st_Plain_init ["self", "cells", "slots", "roots", "registers", "threads"] 2 ["roots", "registers", "threads"]) (T : Txt K mg) (TT : TTxt K C) : CalCK P w K mg base CX0 1 "Plain" C ["self", "cells", "slots", "roots", "registers", "threads"] 2 ["roots", "registers", "threads"] (SpW K (D_init C)) := by
  have sc := sc_Plain_init
  refine S.cal (k := 0) sc (SpW.len fun ds h P z => by obtain ⟨_, _, _, _, _, _, rfl, _⟩ := z; rfl) (fun f cdv A outer s H vs Q E hr h => ⟨_, (pss_cons (k_psfld (K := K) rfl (pv 0) (pv 1) rfl)
  (pss_cons (k_psfld (K := K) rfl (pv 0) (pv 2) rfl)
  (pss_cons (k_psfld (K := K) rfl (pv 0) (pe_ref (pe_op op_rep (pe_lst (pa_cons pe_non pa_nil)) (pv 3))) rfl)
  (pss_cons (k_psfld (K := K) rfl (pv 0) (pe_ref (pe_lc (own := [("_", 6)]) rfl sc.nd (pi_range1 (by rfl) T.n_range (pa_cons (pv 5) pa_nil)) (blkOk_by (by first | decide +kernel | kernel_rfl)) (fun _ _ _ _ _ => (pg_name (i := 6) sc.nd rfl (by first | exact Or.inl rfl | exact Or.inr rfl))) (fun _ _ _ _ _ => pts_nil) (fun _ _ _ _ _ => (pe_ref (pe_op op_rep (pe_lst (pa_cons pe_non pa_nil)) (pv 4)))))) rfl)
  (pss_cons (k_psfld (K := K) rfl (pv 0) pe_dnewK rfl)
  (pss_one (k_psfld (K := K) rfl (pv 0) pe_int rfl))))))), h.enter fun ds lh P hD => ?_⟩)
  obtain ⟨x, cells, slots, R, G, Th, rfl, hx, hR, hG, hT, hk⟩ := hD
  simp [hx, TT.cl, TT.n0, TT.n1, TT.n2, TT.n3, TT.n4, TT.n5, rep1]
  refine ⟨by omega, by omega, fun r hr0 => ?_⟩
  have xr : x ≠ r := fun z => by subst z; rw [up_same] at hr0; cases hr0
  have hr' : lh r = none := by rw [up_ne xr.symm] at hr0; exact hr0
  simp [up_ne xr, TT.cl, TT.n2, TT.n3, TT.n4, TT.n5]
  refine ⟨by omega, ?_⟩
  generalize hh1 : (up (up (up lh x _) r _) x _ : Lh) = h1
  have h1x : h1 x = some (.ins C [("_cells", .int cells), ("_slots", .int slots), ("_roots", rf r)]) := by rw [← hh1, up_same]
  have h1r : h1 r = some (.lst (List.replicate R .none)) := by rw [← hh1, up_ne xr.symm, up_same]
  have k1 : Kp [x] lh h1 := by rw [← hh1]; exact ((Kp.put (by simp)).new2 hr').put2 (by simp)
  clear hh1
  have n1 : ∀ y, h1 y = none → lh y = none := fun y e => by
    cases q : lh y with
    | none => rfl
    | some o =>
      by_cases c : y = x
      · subst c; rw [h1x] at e; cases e
      · rw [k1 y o (by simpa using c) q] at e; cases e
  refine lcL_run (fun ds acc h => ∃ gs : List Addr, acc = gs.map (fun y => rf y) ∧ ds.length + gs.length = Th ∧ gs.Nodup ∧ (∀ y ∈ gs, h1 y = none ∧ h y = some (.lst (List.replicate G .none))) ∧ Lx h1 h) ?_ ?_ ⟨[], rfl, by simp [rgD], List.nodup_nil, fun y hy => absurd hy List.not_mem_nil, Lx.refl _⟩
  · rintro d ds acc h ⟨gs, rfl, hl, nd, hg, lx⟩
    refine ⟨trivial, by simp at hl ⊢; omega, fun F hF => ?_⟩
    simp [rep1]
    refine ⟨by omega, by omega, fun q hq => ?_⟩
    have := hF ((gs ++ [q]).map fun y => rf y) (up h q (.lst (List.replicate G .none))) ⟨gs ++ [q], rfl, by simp at hl ⊢; omega, ?_, fun y hy => ?_, lx.trans (Lx.new hq)⟩
    · simpa using this
    · rw [List.nodup_append]
      refine ⟨nd, by simp, fun a ha b hb => ?_⟩
      cases List.mem_singleton.mp hb
      intro z
      subst z
      rw [(hg a ha).2] at hq; cases hq
    · rcases List.mem_append.mp hy with hy1 | hy1
      · refine ⟨(hg y hy1).1, ?_⟩
        rw [up_ne (fun z => by subst z; rw [(hg y hy1).2] at hq; cases hq)]
        exact (hg y hy1).2
      · cases List.mem_singleton.mp hy1
        exact ⟨lx.nn hq, up_same⟩
  · rintro acc h ⟨gs, rfl, hl, nd, hg, lx⟩
    refine ⟨trivial, fun g hg1 hg2 => ?_⟩
    have xg : x ≠ g := fun z => by subst z; rw [h1x] at hg1; cases hg1
    have rg : r ≠ g := fun z => by subst z; rw [h1r] at hg1; cases hg1
    have hx2 := lx _ _ h1x
    have hr2 := lx _ _ h1r
    simp [up_ne xg, hx2, TT.cl, TT.n3, TT.n4, TT.n5]
    intro o ho
    have ox : x ≠ o := fun z => by subst z; rw [up_same] at ho; cases ho
    have og : g ≠ o := fun z => by subst z; rw [up_ne xg.symm, up_same] at ho; cases ho
    rw [up_ne ox.symm, up_ne og.symm] at ho
    have or' : r ≠ o := fun z => by subst z; rw [hr2] at ho; cases ho
    simp [up_ne ox, TT.cl, TT.n4, TT.n5]
    have gn : ∀ y ∈ gs, y ≠ x ∧ y ≠ r ∧ y ≠ g ∧ y ≠ o := fun y hy => by
      obtain ⟨e1, e2⟩ := hg y hy
      exact ⟨fun z => (by subst z; rw [h1x] at e1; cases e1), fun z => (by subst z; rw [h1r] at e1; cases e1), fun z => (by subst z; rw [e2] at hg2; cases hg2), fun z => (by subst z; rw [e2] at ho; cases ho)⟩
    have hlen : gs.length = Th := by simpa using hl
    refine hk ⟨x, r, g, o, gs, fun _ => 0⟩ _ rfl ?_ ⟨?_, fun y hy => ?_⟩
    · show PlainK C _ _ (met (st0 cells slots R G Th)) _
      rw [met0]
      exact {
        nd := by
          unfold Pl.F
          simp only [List.map_nil, List.append_nil, List.nodup_cons, List.mem_cons, not_or]
          exact ⟨⟨xr, xg, ox, fun z => (gn _ z).1 rfl⟩, ⟨rg, or', fun z => (gn _ z).2.1 rfl⟩, ⟨og, fun z => (gn _ z).2.2.1 rfl⟩, fun z => (gn _ z).2.2.2 rfl, nd⟩
        a := up_same
        r := by
          show up _ x _ r = _
          simp only [up_ne xr.symm, up_ne or', up_ne rg, hr2]; rfl
        g := by
          show up _ x _ g = _
          simp only [up_ne xg.symm, up_ne og, up_same]
        o := by
          show up _ x _ o = _
          simp only [up_ne ox.symm, up_same]; rfl
        gl := by rw [hlen]; exact List.length_replicate.symm
        gr := fun i hi => by
          have hi' : i < gs.length := hi
          obtain ⟨q1, q2, q3, q4⟩ := gn _ (List.getElem_mem hi')
          show up _ x _ gs[i] = _
          simp only [up_ne q1, up_ne q4, up_ne q3, (hg _ (List.getElem_mem hi')).2]
          unfold row st0
          rw [getD_lt (by simp; omega)]
          simp
        oc := fun k hk => absurd hk List.not_mem_nil }
    · exact ((k1.lx lx).new2 (n1 _ hg1)).put2 (by simp) |>.new2 (n1 _ (lx.nn ho)) |>.put2 (by simp)
    · unfold Pl.G at hy
      rw [met0] at hy
      unfold Pl.F at hy
      simp only [List.map_nil, List.append_nil, List.mem_cons] at hy
      rcases hy with rfl | rfl | rfl | rfl | hy
      · exact .inl (by simp)
      · exact .inr hr'
      · exact .inr (n1 _ hg1)
      · exact .inr (n1 _ (lx.nn ho))
      · exact .inr (n1 _ (hg y hy).1)
end
end K37
set_option Elab.async false
set_option linter.all false
set_option maxRecDepth 100000
set_option maxHeartbeats 1000000
namespace K37
open PySem PySem.Spec PyProof.Rows L2 Evl Pd Wl
theorem _root_.Ne.nd2 {a b : Addr} (h : a ≠ b) : [a, b].Nodup := by simpa using h
/-! things that stand in the heap, each at places of its own -/
structure Res where
  F : List Addr
  R : Lh → Prop
  keep : ∀ h h', R h → (∀ x ∈ F, ∀ o, h x = some o → h' x = some o) → R h'
  has : ∀ h, R h → ∀ x ∈ F, ∃ o, h x = some o
def Fs (rs : List Res) : List Addr := rs.flatMap Res.F
structure At (rs : List Res) (h : Lh) : Prop where
  nd : (Fs rs).Nodup
  al : ∀ r ∈ rs, r.R h
theorem mem_Fs {rs : List Res} {x : Addr} : x ∈ Fs rs ↔ ∃ r ∈ rs, x ∈ r.F := by unfold Fs; exact List.mem_flatMap
theorem Fs_cons {r : Res} {rs : List Res} : Fs (r :: rs) = r.F ++ Fs rs := rfl
theorem Fs_append {a b : List Res} : Fs (a ++ b) = Fs a ++ Fs b := by unfold Fs; exact List.flatMap_append
theorem At.has {rs : List Res} {h : Lh} (A : At rs h) : ∀ x ∈ Fs rs, ∃ o, h x = some o := fun x hx => by
  obtain ⟨r, hr, hx⟩ := mem_Fs.mp hx
  exact r.has h (A.al r hr) x hx
theorem At.keep {rs : List Res} {h h' : Lh} (A : At rs h) (f : ∀ x ∈ Fs rs, ∀ o, h x = some o → h' x = some o) : At rs h' := ⟨A.nd, fun r hr => r.keep h h' (A.al r hr) fun x hx => f x (mem_Fs.mpr ⟨r, hr, hx⟩)⟩
theorem At.lx {rs : List Res} {h h' : Lh} (A : At rs h) (f : Lx h h') : At rs h' := A.keep fun x _ => f x
/-- several things as one -/
def grR (rs : List Res) : Res := ⟨Fs rs, At rs, fun h h' A f => A.keep f, fun h A => A.has⟩
def ceR (a : Addr) (o : LO) : Res := ⟨[a], fun h => h a = some o, fun h h' e f => f a (by simp) o e, fun h e x hx => ⟨o, by rw [List.mem_singleton.mp hx]; exact e⟩⟩
/-- two places -/
def c2R (a : Addr) (o : LO) (b : Addr) (u : LO) : Res := ⟨[a, b], fun h => h a = some o ∧ h b = some u, fun h h' e f => ⟨f a (by simp) o e.1, f b (by simp) u e.2⟩, fun h e x hx => by
    simp only [List.mem_cons, List.not_mem_nil, or_false] at hx
    rcases hx with rfl | rfl
    · exact ⟨o, e.1⟩
    · exact ⟨u, e.2⟩⟩
def plR (C : Addr) (st : PSt) (p : Pl) : Res := ⟨p.G st, PlainAt C st p, fun h h' A f => A.keep f, fun h A => A.mem⟩
def tpR (t c : Addr) : Res := ⟨[t, c], TapeOk t c, fun h h' T f => by
    refine ⟨T.ne, ?_, ?_⟩
    · obtain ⟨s, e, q⟩ := T.tp
      exact ⟨s, f t (by simp) _ e, q⟩
    · obtain ⟨s, e, q⟩ := T.ce
      exact ⟨s, f c (by simp) _ e, q⟩, fun h T x hx => by
    simp only [List.mem_cons, List.not_mem_nil, or_false] at hx
    rcases hx with rfl | rfl
    · obtain ⟨s, e, q⟩ := T.tp; exact ⟨_, e⟩
    · obtain ⟨s, e, q⟩ := T.ce; exact ⟨_, e⟩⟩
theorem tape_gp {t c : Addr} {h h' : Lh} (g : TapeGo t c h h') : Gp [t, c] h [t, c] h' := ⟨fun x o n e => g.fr x o (fun z => n (by simp [z])) (fun z => n (by simp [z])) e, fun x m => .inl m⟩
/-- one thing changes -/
theorem At.mid {a b : List Res} {r r' : Res} {h h' : Lh} (A : At (a ++ r :: b) h) (g : Gp r.F h r'.F h') (hr : r'.R h') (nd : r'.F.Nodup) : At (a ++ r' :: b) h' ∧ Gp (Fs (a ++ r :: b)) h (Fs (a ++ r' :: b)) h' := by
  have nd0 := A.nd
  rw [Fs_append, Fs_cons, List.nodup_append, List.nodup_append] at nd0
  obtain ⟨n1, ⟨n2, n3, d1⟩, d2⟩ := nd0
  have out : ∀ x, (x ∈ Fs a ∨ x ∈ Fs b) → ∃ o, h x = some o ∧ x ∉ r.F ∧ x ∉ r'.F := fun x hx => by
    have hm : x ∈ Fs (a ++ r :: b) := by
      rw [Fs_append, Fs_cons]
      rcases hx with hx | hx
      · exact List.mem_append_left _ hx
      · exact List.mem_append_right _ (List.mem_append_right _ hx)
    obtain ⟨o, e⟩ := A.has x hm
    have c : x ∉ r.F := fun z => by
      rcases hx with hx | hx
      · exact d2 x hx x (List.mem_append_left _ z) rfl
      · exact d1 x z x hx rfl
    refine ⟨o, e, c, fun z => ?_⟩
    rcases g.nw x z with q | q
    · exact c q
    · rw [q] at e; cases e
  refine ⟨⟨?_, fun q hq => ?_⟩, ?_, fun x hx => ?_⟩
  · rw [Fs_append, Fs_cons, List.nodup_append, List.nodup_append]
    refine ⟨n1, ⟨nd, n3, fun x hx y hy z => ?_⟩, fun x hx y hy z => ?_⟩
    · subst z
      obtain ⟨_, _, _, q⟩ := out x (.inr hy)
      exact q hx
    · subst z
      rcases List.mem_append.mp hy with hy | hy
      · obtain ⟨_, _, _, q⟩ := out x (.inl hx)
        exact q hy
      · exact d2 x hx x (List.mem_append_right _ hy) rfl
  · have kp : ∀ (q : Res), q ∈ a ∨ q ∈ b → q.R h' := fun q hq => by
      refine q.keep h h' (A.al q (by rcases hq with hq | hq <;> simp [hq])) fun x hx o e => ?_
      obtain ⟨_, _, c, _⟩ := out x (hq.imp (fun hq => mem_Fs.mpr ⟨q, hq, hx⟩) fun hq => mem_Fs.mpr ⟨q, hq, hx⟩)
      exact g.fr x o c e
    rcases List.mem_append.mp hq with hq | hq
    · exact kp q (.inl hq)
    · rcases List.mem_cons.mp hq with rfl | hq
      · exact hr
      · exact kp q (.inr hq)
  · intro x o hx e
    refine g.fr x o (fun z => hx ?_) e
    rw [Fs_append, Fs_cons]
    exact List.mem_append_right _ (List.mem_append_left _ z)
  · rw [Fs_append, Fs_cons] at hx ⊢
    rcases List.mem_append.mp hx with hx | hx
    · exact .inl (List.mem_append_left _ hx)
    · rcases List.mem_append.mp hx with hx | hx
      · rcases g.nw x hx with q | q
        · exact .inl (List.mem_append_right _ (List.mem_append_left _ q))
        · exact .inr q
      · exact .inl (List.mem_append_right _ (List.mem_append_right _ hx))
/-- .. at a place of the list -/
theorem At.set {rs : List Res} {i : Nat} {r r' : Res} {h h' : Lh} (A : At rs h) (hi : rs[i]? = some r) (g : Gp r.F h r'.F h') (hr : r'.R h') (nd : r'.F.Nodup) : At (rs.set i r') h' ∧ Gp (Fs rs) h (Fs (rs.set i r')) h' := by
  obtain ⟨hl, e⟩ := List.getElem?_eq_some_iff.mp hi
  have e1 : rs = rs.take i ++ r :: rs.drop (i + 1) := by rw [← e, ← List.drop_eq_getElem_cons hl, List.take_append_drop]
  have e2 : rs.set i r' = rs.take i ++ r' :: rs.drop (i + 1) := by
    rw [List.set_eq_take_append_cons_drop, if_pos hl]
  rw [e2]
  rw [e1] at A
  have := A.mid g hr nd
  rw [← e1] at this
  exact this
theorem At.get {rs : List Res} {i : Nat} {r : Res} {h : Lh} (A : At rs h) (hi : rs[i]? = some r) : r.R h := A.al r (List.mem_of_getElem? hi)
theorem At.ndAt {rs : List Res} {i : Nat} {r : Res} {h : Lh} (A : At rs h) (hi : rs[i]? = some r) : r.F.Nodup := by
  obtain ⟨hl, e⟩ := List.getElem?_eq_some_iff.mp hi
  have e1 : rs = rs.take i ++ r :: rs.drop (i + 1) := by rw [← e, ← List.drop_eq_getElem_cons hl, List.take_append_drop]
  have := A.nd
  rw [e1, Fs_append, Fs_cons, List.nodup_append, List.nodup_append] at this
  exact this.2.1.1
/-- one thing more -/
theorem At.add {rs : List Res} {r : Res} {h h' : Lh} (A : At rs h) (g : Gp [] h r.F h') (hr : r.R h') (nd : r.F.Nodup) : At (rs ++ [r]) h' ∧ Gp (Fs rs) h (Fs (rs ++ [r])) h' := by
  have lx : Lx h h' := fun x o e => g.fr x o List.not_mem_nil e
  have nw : ∀ x ∈ r.F, h x = none := fun x hx => by
    rcases g.nw x hx with q | q
    · cases q
    · exact q
  have e : Fs (rs ++ [r]) = Fs rs ++ r.F := by rw [Fs_append, Fs_cons]; simp [Fs]
  refine ⟨⟨?_, fun q hq => ?_⟩, fun x o _ => lx x o, fun x hx => ?_⟩
  · rw [e, List.nodup_append]
    refine ⟨A.nd, nd, fun x hx y hy z => ?_⟩
    subst z
    obtain ⟨o, e⟩ := A.has x hx
    rw [nw x hy] at e; cases e
  · rcases List.mem_append.mp hq with hq | hq
    · exact (A.lx lx).al q hq
    · rw [List.mem_singleton.mp hq]; exact hr
  · rw [e] at hx
    rcases List.mem_append.mp hx with hx | hx
    · exact .inl hx
    · exact .inr (nw x hx)
theorem At.nil {h : Lh} : At [] h := ⟨List.nodup_nil, fun r hr => by cases hr⟩
/-- some things alone -/
theorem Fs_sub {rs qs : List Res} (s : qs.Sublist rs) : (Fs qs).Sublist (Fs rs) := by
  induction s with
  | slnil => exact List.Sublist.refl _
  | cons a _ ih => rw [Fs_cons]; exact ih.trans (List.sublist_append_right _ _)
  | cons_cons a _ ih => rw [Fs_cons, Fs_cons]; exact (List.Sublist.refl _).append ih
theorem At.sub {rs qs : List Res} {h : Lh} (A : At rs h) (s : qs.Sublist rs) : At qs h := ⟨List.Nodup.sublist (Fs_sub s) A.nd, fun r hr => A.al r (s.subset hr)⟩
theorem At.perm {rs qs : List Res} {h : Lh} (A : At rs h) (s : rs.Perm qs) : At qs h := ⟨(List.Perm.nodup_iff (List.Perm.flatMap_right _ s)).mp A.nd, fun r hr => A.al r (s.mem_iff.mpr hr)⟩
/-- from rs0 in h0 to rs in h -/
structure Tk (F0 : List Addr) (h0 : Lh) (rs : List Res) (h : Lh) : Prop where
  at_ : At rs h
  gp : Gp F0 h0 (Fs rs) h
section
variable {F0 : List Addr} {h0 h h' : Lh} {rs qs : List Res} {i : Nat}
theorem Tk.start {rs : List Res} {h : Lh} (A : At rs h) : Tk (Fs rs) h rs h := ⟨A, Gp.refl _ _⟩
theorem Tk.one {x : Addr} {o : LO} (e : h x = some o) : Tk [x] h [ceR x o] h := ⟨⟨by simp [Fs, ceR], fun r hr => by cases List.mem_singleton.mp hr; exact e⟩, ⟨fun _ _ _ e => e, fun y hy => .inl (by simpa [Fs, ceR] using hy)⟩⟩
/-- several things, from now on one -/
theorem Tk.grp (T : Tk F0 h0 rs h) : Tk F0 h0 [grR rs] h := ⟨⟨by rw [Fs_cons]; simpa [Fs, grR] using T.at_.nd, fun r hr => by cases List.mem_singleton.mp hr; exact T.at_⟩, ⟨T.gp.fr, fun x hx => T.gp.nw x (by rw [Fs_cons] at hx; simpa [Fs, grR] using hx)⟩⟩
theorem Tk.then1 {F0 : List Addr} {h0 h h' : Lh} {r r' : Res} (T : Tk F0 h0 [r] h) (U : Tk r.F h [r'] h') : Tk F0 h0 [r'] h' := ⟨U.at_, T.gp.trans (F1 := Fs [r]) ⟨fun x o n e => U.gp.fr x o (fun z => n (by rw [Fs_cons]; exact List.mem_append_left _ z)) e, fun x m => (U.gp.nw x m).imp (fun z => by rw [Fs_cons]; exact List.mem_append_left _ z) id⟩⟩
theorem Tk.nil (h : Lh) : Tk [] h [] h := ⟨At.nil, Gp.refl _ _⟩
theorem Tk.set {r r' : Res} (T : Tk F0 h0 rs h) (i : Nat) (hi : rs[i]? = some r) (g : Gp r.F h r'.F h') (hr : r'.R h') (nd : r'.F.Nodup) : Tk F0 h0 (rs.set i r') h' := by
  obtain ⟨a, b⟩ := T.at_.set hi g hr nd
  exact ⟨a, T.gp.trans b⟩
theorem Tk.thenAt {r r' : Res} (T : Tk F0 h0 rs h) (i : Nat) (hi : rs[i]? = some r) (U : Tk r.F h [r'] h') : Tk F0 h0 (rs.set i r') h' :=
  T.set i hi ⟨U.gp.fr, fun x m => U.gp.nw x (by rw [Fs_cons]; exact List.mem_append_left _ m)⟩ (U.at_.get (i := 0) rfl) (U.at_.ndAt (i := 0) rfl)
theorem Tk.mid {a b : List Res} {r r' : Res} (T : Tk F0 h0 (a ++ r :: b) h) (g : Gp r.F h r'.F h') (hr : r'.R h') (nd : r'.F.Nodup) : Tk F0 h0 (a ++ r' :: b) h' := by
  obtain ⟨x, y⟩ := T.at_.mid g hr nd
  exact ⟨x, T.gp.trans y⟩
theorem Tk.put {a : Addr} {o u : LO} (T : Tk F0 h0 rs h) (i : Nat) (hi : rs[i]? = some (ceR a o)) : Tk F0 h0 (rs.set i (ceR a u)) (up h a u) :=
  T.set i hi ⟨Kp.put (by simp [ceR]), fun x m => .inl m⟩ up_same (by simp [ceR])
theorem At.c2ne {a b : Addr} {o u : LO} {rs : List Res} {h : Lh} (A : At rs h) {i : Nat} (hi : rs[i]? = some (c2R a o b u)) : a ≠ b := by
  have := A.ndAt hi
  simpa [c2R] using this
theorem Tk.putB {a b : Addr} {o u u' : LO} (T : Tk F0 h0 rs h) (i : Nat) (hi : rs[i]? = some (c2R a o b u)) : Tk F0 h0 (rs.set i (c2R a o b u')) (up h b u') := by
  have ne := T.at_.c2ne hi
  exact T.set i hi (r' := c2R a o b u') ⟨Kp.put (by simp [c2R]), fun x m => .inl m⟩ ⟨by rw [up_ne ne]; exact (T.at_.get hi).1, up_same⟩ (by simpa [c2R] using ne)
theorem Tk.putA {a b : Addr} {o o' u : LO} (T : Tk F0 h0 rs h) (i : Nat) (hi : rs[i]? = some (c2R a o b u)) : Tk F0 h0 (rs.set i (c2R a o' b u)) (up h a o') := by
  have ne := T.at_.c2ne hi
  exact T.set i hi (r' := c2R a o' b u) ⟨Kp.put (by simp [c2R]), fun x m => .inl m⟩ ⟨up_same, by rw [up_ne ne.symm]; exact (T.at_.get hi).2⟩ (by simpa [c2R] using ne)
theorem Tk.add {r : Res} (T : Tk F0 h0 rs h) (g : Gp [] h r.F h') (hr : r.R h') (nd : r.F.Nodup) : Tk F0 h0 (rs ++ [r]) h' := by
  obtain ⟨x, y⟩ := T.at_.add g hr nd
  exact ⟨x, T.gp.trans y⟩
theorem Tk.new {q : Addr} {u : LO} (T : Tk F0 h0 rs h) (hq : h q = none) : Tk F0 h0 (rs ++ [ceR q u]) (up h q u) :=
  T.add ⟨(Lx.new hq).kp, fun x m => .inr (by cases List.mem_singleton.mp m; exact hq)⟩ up_same (by simp [ceR])
theorem Tk.new2 {a d : Addr} {o u : LO} (T : Tk F0 h0 rs h) (hd : h d = none) (ha : up h d u a = none) : Tk F0 h0 (rs ++ [c2R a o d u]) (up (up h d u) a o) := by
  have ad : a ≠ d := fun z => by subst z; rw [up_same] at ha; cases ha
  have ha' : h a = none := by rw [up_ne ad] at ha; exact ha
  refine T.add ⟨((Lx.new hd).trans (Lx.new ha)).kp, fun x m => .inr ?_⟩ ⟨up_same, by rw [up_ne ad.symm, up_same]⟩ (by simpa [c2R] using ad)
  simp only [c2R, List.mem_cons, List.not_mem_nil, or_false] at m
  rcases m with rfl | rfl
  · exact ha'
  · exact hd
theorem Tk.midB {a b : List Res} {e d : Addr} {o u u' : LO} (T : Tk F0 h0 (a ++ c2R e o d u :: b) h) : Tk F0 h0 (a ++ c2R e o d u' :: b) (up h d u') := by
  have hi : (a ++ c2R e o d u :: b)[a.length]? = some (c2R e o d u) := by rw [List.getElem?_append_right (Nat.le_refl _), Nat.sub_self]; rfl
  have ne := T.at_.c2ne hi
  exact T.mid (r' := c2R e o d u') ⟨Kp.put (by simp [c2R]), fun x m => .inl m⟩ ⟨by rw [up_ne ne]; exact (T.at_.get hi).1, up_same⟩ (by simpa [c2R] using ne)
theorem Tk.lx (T : Tk F0 h0 rs h) (l : Lx h h') : Tk F0 h0 rs h' := ⟨T.at_.lx l, ⟨T.gp.fr.lx l, T.gp.nw⟩⟩
theorem Tk.sub (T : Tk F0 h0 rs h) (s : qs.Sublist rs) : Tk F0 h0 qs h := ⟨T.at_.sub s, ⟨T.gp.fr, fun x m => T.gp.nw x ((Fs_sub s).subset m)⟩⟩
theorem Tk.perm (T : Tk F0 h0 rs h) (s : rs.Perm qs) : Tk F0 h0 qs h := ⟨T.at_.perm s, ⟨T.gp.fr, fun x m => T.gp.nw x (by
  obtain ⟨r, hr, hx⟩ := mem_Fs.mp m
  exact mem_Fs.mpr ⟨r, s.mem_iff.mpr hr, hx⟩)⟩⟩
theorem Tk.repl {a b : List Res} {r r' : Res} (T : Tk F0 h0 ((a ++ r :: b) ++ [r']) h) : Tk F0 h0 (a ++ r' :: b) h := by
  have p1 : ((a ++ r :: b) ++ [r']).Perm (a ++ r' :: r :: b) := (List.perm_append_singleton r' (a ++ r :: b)).trans (List.perm_middle (a := r') (l₁ := a) (l₂ := r :: b)).symm
  exact (T.perm p1).sub ((List.Sublist.refl a).append (List.Sublist.cons_cons _ (List.sublist_cons_self _ _)))
theorem Tk.fr (T : Tk F0 h0 rs h) {x : Addr} {o : LO} (n : x ∉ F0) (e : h0 x = some o) : h x = some o := T.gp.fr x o n e
theorem Tk.ne (T : Tk F0 h0 rs h) {i j : Nat} {r s : Res} {x y : Addr} (hi : rs[i]? = some r) (hj : rs[j]? = some s) (hx : x ∈ r.F) (hy : y ∈ s.F) (ij : i ≠ j) : x ≠ y := fun z => by
  subst z
  have nd := T.at_.nd
  have key : ∀ (rs : List Res) (i j : Nat), (Fs rs).Nodup → rs[i]? = some r → rs[j]? = some s → i < j → x ∈ r.F → x ∈ s.F → False := by
    intro rs
    induction rs with
    | nil => intro i j _ hi; simp at hi
    | cons q rs ih =>
      intro i j nd hi hj ij h1 h2
      rw [Fs_cons, List.nodup_append] at nd
      cases j with
      | zero => omega
      | succ j =>
        cases i with
        | zero =>
          simp at hi hj
          subst hi
          exact nd.2.2 x h1 x (mem_Fs.mpr ⟨s, List.mem_of_getElem? hj, h2⟩) rfl
        | succ i => exact ih i j nd.2.1 (by simpa using hi) (by simpa using hj) (by omega) h1 h2
  rcases Nat.lt_or_gt_of_ne ij with c | c
  · exact key rs i j nd hi hj c hx hy
  · -- the other way
    have key2 : ∀ (rs : List Res) (i j : Nat), (Fs rs).Nodup → rs[i]? = some r → rs[j]? = some s → j < i → x ∈ r.F → x ∈ s.F → False := by
      intro rs
      induction rs with
      | nil => intro i j _ hi; simp at hi
      | cons q rs ih =>
        intro i j nd hi hj ij h1 h2
        rw [Fs_cons, List.nodup_append] at nd
        cases i with
        | zero => omega
        | succ i =>
          cases j with
          | zero =>
            simp at hi hj
            subst hj
            exact nd.2.2 x h2 x (mem_Fs.mpr ⟨r, List.mem_of_getElem? hi, h1⟩) rfl
          | succ j => exact ih i j nd.2.1 (by simpa using hi) (by simpa using hj) (by omega) h1 h2
    exact key2 rs i j nd hi hj c hx hy
end
end K37
set_option Elab.async false
set_option linter.all false
set_option maxRecDepth 100000
set_option maxHeartbeats 4000000
set_option synthInstance.maxHeartbeats 1000000
set_option synthInstance.maxSize 1000000
namespace K37
open PySem PySem.Spec PyProof.Rows L2 Evl Pd Wl
abbrev opsD (l : List Op) : PyData := .tuple (l.map Op.d)
abbrev objsD (os : List (List PyData)) : PyData := .tuple (os.map PyData.tuple)
inductive GR : PyData → Prop
  | non : GR .none
  | lst (ds : List PyData) : GR (.list ds)
  | tup (rs : List PyData) : rs.length ≤ 50 → (∀ v ∈ rs, SV v) → GR (.tuple rs)
inductive GC : PyData → Prop
  | lst (ds : List PyData) : GC (.list ds)
  | tup (vs : List PyData) : vs.length ≤ 50 → (∀ v ∈ vs, SV v) → GC (.tuple vs)
inductive GO : PyData → Prop
  | non : GO .none
  | lst (ds : List PyData) : GO (.list ds)
  | tup (os : List PyData) : os.length ≤ 50 → (∀ c ∈ os, GC c) → GO (.tuple os)
theorem dm_two {a b : PyData} (ha : Dm 100 0 a) (hb : Dm 100 0 b) : Dm 100 1 (.tuple [a, b]) := .tup 0 _ (by simp) fun d hd => by
  simp only [List.mem_cons, List.not_mem_nil, or_false] at hd
  rcases hd with rfl | rfl
  · exact ha
  · exact hb
theorem SV.dm {v : PyData} (h : SV v) : Dm 100 1 v := by
  cases h with
  | non => exact .non 1
  | bl b => exact .bool 1 b
  | int i => exact .int 1 i
  | str s hs => exact .str 1 s hs
  | nil => exact .tup 0 _ (by simp) (fun d hd => by cases hd)
  | pi s i hs => exact dm_two (.str 0 s hs) (.int 0 i)
  | pb s b hs => exact dm_two (.str 0 s hs) (.bool 0 b)
theorem sv_cleans : ∀ {vs : List PyData}, (∀ v ∈ vs, SV v) → cleans vs = true
  | [], _ => rfl
  | v :: vs, h => by
    have h1 : clean v = true := by cases h v (by simp) <;> rfl
    show (clean v && cleans vs) = true
    rw [h1, sv_cleans fun u hu => h u (by simp [hu])]; rfl
theorem tup_rd {vs : List PyData} (h1 : vs.length ≤ 50) (h2 : ∀ v ∈ vs, SV v) : Rd0 (.tuple vs) := ⟨2, by decide, .tup 1 _ (by omega) fun d hd => (h2 d hd).dm⟩
theorem lcL_all {keep : Lh → Prop} {g : WG} {e : WE} {ρ : Ev'} {P : List PyData → Lh → Prop} {h : Lh} {l : List PyData} (f : PyData → Bool) (hk : keep h) (hz : l.length ≤ 100000)
    (hs : ∀ a ∈ l, ∀ F : PyData → Lh → Prop, F (.bool (f a)) h → g a ρ h fun ρ1 h1 => e ρ1 h1 F) (hd : P ((l.map f).map PyData.bool) h) : lcL keep g wYes e ρ P l [] h :=
  lcL_id (fun v => .bool (f v)) hk hz hs (by rw [List.map_map] at hd; exact hd)
theorem cl_ints : ∀ {ns : List Int}, cleans (ns.map PyData.int) = true
  | [] => rfl
  | n :: ns => by show (clean (.int n) && cleans (ns.map PyData.int)) = true; rw [cl_ints]; rfl
theorem sh_ints {ns : List Int} : SeqAt.shaped (.list (ns.map PyData.int)) = true := (Dm.lst (L := ns.length) 0 _ (by simp) fun d hd => by
  obtain ⟨i, _, rfl⟩ := List.mem_map.mp hd
  exact .int 0 i).sh (by decide)
theorem eqv_ints : ∀ {a b : List Int}, PyData.eqvAll (a.map PyData.int) (b.map PyData.int) = decide (a = b)
  | [], [] => by simp [PyData.eqvAll]
  | [], _ :: _ => by simp [PyData.eqvAll]
  | _ :: _, [] => by simp [PyData.eqvAll]
  | x :: a, y :: b => by
    rw [List.map_cons, List.map_cons, PyData.eqvAll, eqv_ints]
    have : PyData.eqv (.int x) (.int y) = decide (x = y) := by simp only [PyData.eqv]; exact Bool.eq_iff_iff.mpr (by simp)
    rw [this, Bool.eq_iff_iff]
    simp
theorem eqv_intsL {a b : List Int} : PyData.eqv (.list (a.map PyData.int)) (.list (b.map PyData.int)) = decide (a = b) := by rw [PyData.eqv]; exact eqv_ints
theorem rgD_nil {i j : Int} (h : j ≤ i) : rgD i j = [] := by
  unfold rgD
  rw [show (j - i).toNat = 0 by omega]; rfl
theorem rgD_cons {i j : Int} (h : i < j) : rgD i j = .int i :: rgD (i + 1) j := by
  unfold rgD
  rw [show (j - i).toNat = (j - (i + 1)).toNat + 1 by omega, List.range_succ_eq_map, List.map_cons, List.map_map]
  congr 1
  · simp
  · refine List.map_congr_left fun k _ => ?_
    simp
    omega
theorem rgD_range {n : Nat} : rgD 0 (n : Int) = (rangeI n).map PyData.int := by
  unfold rgD rangeI
  rw [List.map_map, show ((n : Int) - 0).toNat = n by omega]
  refine List.map_congr_left fun k _ => ?_
  simp
section
variable {P : Program} {w : World} {K : PySem.W.Frag} {mg : Str → Option Value} {base : Heap} {XV : Addr}
def D_check (XV : Addr) (ds : List PyData) (h : Lh) (P : Wv) (X : XB) : Prop := ∃ r o, ds = [r, o] ∧ GR r ∧ GO o ∧ (chk r o = true → ∀ h', Lx h h' → P .none h') ∧ (chk r o = false → ∀ h', Lx h h' → X XV [] h')
theorem cal_check (S : Src K mg "check_picture" st_check_picture ["roots", "objects"]) (T : Txt K mg) (XX_BadValue : XCls K mg "BadValue" XV) (C_is_shown : Cal P w K mg base CX0 3 "is_shown" ["value", "count", "with_numbers"] (SpW K D_shown)) (C_met_from : Cal P w K mg base CX0 1 "met_from" ["roots", "objects"] (SpW K D_met_from)) :
    Cal P w K mg base (L2.CX P w) 4 "check_picture" ["roots", "objects"] (SpX K (D_check XV)) := by
  have sc := sc_check_picture
  refine S.calX (k := 3) sc (SpX.len fun ds h P X z => by obtain ⟨_, _, rfl, _⟩ := z; rfl) (fun f cdv A outer s H vs Q E hr h => ⟨_, (pss_cons (ps_if (PW.pt (pw_or (pt_not (pt_val (pe_callB (k_isi (K := K) rfl) (by rfl) T.n_isinstance (by decide +kernel) (pa_cons (pv 0) (pa_cons (pe_bltn (v := .ty "tuple") (by rfl) T.n_tuple (by decide +kernel) rfl) pa_nil))))) (pw_or1 (pt_not (pt_val (pe_callB (k_isi (K := K) rfl) (by rfl) T.n_isinstance (by decide +kernel) (pa_cons (pv 1) (pa_cons (pe_bltn (v := .ty "tuple") (by rfl) T.n_tuple (by decide +kernel) rfl) pa_nil)))))))) (pss_one (k_raise rfl (takes_of rfl rfl rfl rfl) (k_mkx XX_BadValue rfl))) pss_nil)
  (pss_cons (ps_set (i := 2) sc.nd rfl (by first | exact Or.inl rfl | exact Or.inr rfl) (pe_callB (k_len_seq (K := K) rfl) (by rfl) T.n_len PySem.boot_len (pa_cons (pv 1) pa_nil)))
  (pss_cons (ps_for (passes_of rfl) rfl (k_pi_tup (K := K) rfl (pv 1)) (pg_name (i := 3) sc.nd rfl (by first | exact Or.inl rfl | exact Or.inr rfl)) (pss_one (ps_if (PW.pt (pw_or (pt_not (pt_val (pe_callB (k_isi (K := K) rfl) (by rfl) T.n_isinstance (by decide +kernel) (pa_cons (pv 3) (pa_cons (pe_bltn (v := .ty "tuple") (by rfl) T.n_tuple (by decide +kernel) rfl) pa_nil))))) (pw_or (pt_cmpR (k_eqD (K := K) rfl (hr.units)) (pv 3) (pe_tup pa_nil) (nomark _)) (pw_or1 (pt_not (pt_val (pe_callB (k_all (K := K) rfl rfl) (by rfl) T.n_all (by decide +kernel) (pa_cons (pe_lc (own := [("value", 4)]) rfl sc.nd (k_pi_tup (K := K) rfl (pv 3)) (blkOk_by (by first | decide +kernel | kernel_rfl)) (fun _ _ _ _ _ => (pg_name (i := 4) sc.nd rfl (by first | exact Or.inl rfl | exact Or.inr rfl))) (fun _ _ _ _ _ => pts_nil) (fun _ _ _ _ _ => (pe_cal C_is_shown (hr.mono (by first | decide | omega)) rfl pass0 (pa_cons (pv 4) (pa_cons (pv 2) (pa_cons pe_bl pa_nil)))))) pa_nil)))))))) (pss_one (k_raise rfl (takes_of rfl rfl rfl rfl) (k_mkx XX_BadValue rfl))) pss_nil)))
  (pss_cons (ps_if (pt_not (pt_val (pe_callB (k_all (K := K) rfl rfl) (by rfl) T.n_all (by decide +kernel) (pa_cons (pe_lc (own := [("value", 4)]) rfl sc.nd (k_pi_tup (K := K) rfl (pv 0)) (blkOk_by (by first | decide +kernel | kernel_rfl)) (fun _ _ _ _ _ => (pg_name (i := 4) sc.nd rfl (by first | exact Or.inl rfl | exact Or.inr rfl))) (fun _ _ _ _ _ => pts_nil) (fun _ _ _ _ _ => (pe_cal C_is_shown (hr.mono (by first | decide | omega)) rfl pass0 (pa_cons (pv 4) (pa_cons (pv 2) (pa_cons pe_bl pa_nil)))))) pa_nil)))) (pss_one (k_raise rfl (takes_of rfl rfl rfl rfl) (k_mkx XX_BadValue rfl))) pss_nil)
  (pss_one (ps_if (pt_cmpR (k_neD (K := K) rfl (hr.units)) (pe_cal C_met_from (hr.mono (by first | decide | omega)) rfl pass0 (pa_cons (pv 0) (pa_cons (pv 1) pa_nil))) (pe_listRg rfl (by rfl) T.n_list (prg_1 (by rfl) T.n_range (pv 2))) (nomark _)) (pss_one (k_raise rfl (takes_of rfl rfl rfl rfl) (k_mkx XX_BadValue rfl))) pss_nil)))))), h.enter fun ds lh P X hD => ?_⟩)
  obtain ⟨r, o, rfl, hr1, ho1, hg, hb⟩ := hD
  refine wSeq_step fun B hB => ?_
  cases hr1 with
  | non => simp; exact hb rfl lh (Lx.refl _)
  | lst ds => simp; exact hb (by cases o <;> rfl) lh (Lx.refl _)
  | tup rs hrl hrs =>
  cases ho1 with
  | non => simp; exact hb rfl lh (Lx.refl _)
  | lst ds => simp; exact hb rfl lh (Lx.refl _)
  | tup os hol hos =>
  simp
  subst hB
  refine wSeq_step fun B hB => ?_
  simp
  subst hB
  refine wSeq_step fun B hB => ?_
  simp
  have ech : chk (.tuple rs) (.tuple os) = (os.all (cellOk os.length) && rs.all (shown os.length false) && decide (metL rs (os.map tupsOf) = rangeI os.length)) := rfl
  rw [ech] at hg hb
  refine forL_run (fun ds ρ h => ∃ (dn : List PyData) (o3 : Option PyData), os = dn ++ ds ∧ ρ = [some (.tuple rs), some (.tuple os), some (.int (os.length : Nat)), o3, none] ∧ dn.all (cellOk os.length) = true ∧ lh = h) ?_ ?_ ⟨[], none, rfl, rfl, rfl, rfl⟩
  · rintro d ds ρ h ⟨dn, o3, e, rfl, hdn, rfl⟩
    refine ⟨trivial, fun F hF => ?_⟩
    have hdo : d ∈ os := by rw [e]; simp
    have bad : cellOk os.length d = false → X XV [] lh := fun hc => hb (by
      have : os.all (cellOk os.length) = false := by rw [List.all_eq_false]; exact ⟨d, hdo, by rw [hc]; decide⟩
      rw [this]; rfl) lh (Lx.refl _)
    have good : cellOk os.length d = true → F [some (.tuple rs), some (.tuple os), some (.int (os.length : Nat)), some d, none] lh := fun hc => hF _ _ ⟨dn ++ [d], some d, by rw [e]; simp, rfl, by rw [List.all_append, hdn]; simp [hc], rfl⟩
    cases hos d hdo with
    | lst es => simp; exact bad rfl
    | tup vs hvl hvs =>
      have rx := tup_rd hvl hvs
      simp [rx.sh]
      refine ⟨sv_cleans hvs, ?_⟩
      have ecell : cellOk os.length (.tuple vs) = (!vs.isEmpty && vs.all (shown os.length true)) := rfl
      cases hve : vs.isEmpty with
      | true => exact wCond.t (bad (by rw [ecell, hve]; rfl))
      | false =>
      refine wCond.f ?_
      refine lcL_all (shown os.length true) trivial (by omega) (fun v hv F hF => ?_) ?_
      · simp
        exact ⟨v, os.length, true, rfl, hvs v hv, hF⟩
      refine ⟨_, boolL_map _, ?_⟩
      have ea : (vs.map (shown os.length true)).all id = cellOk os.length (.tuple vs) := by rw [ecell, hve, List.all_map]; simp
      rw [ea]
      cases hc : cellOk os.length (.tuple vs) with
      | true => exact wCond.t (good hc)
      | false => exact wCond.f (bad hc)
  · rintro ρ h ⟨dn, o3, e, rfl, hdn, rfl⟩
    refine ⟨trivial, ?_⟩
    rw [List.append_nil] at e
    subst e
    subst hB
    dsimp only
    refine wSeq_step fun B hB => ?_
    simp
    rw [hdn, Bool.true_and] at hg hb
    refine lcL_all (shown os.length false) trivial (by omega) (fun v hv F hF => ?_) ?_
    · simp
      exact ⟨v, os.length, false, rfl, hrs v hv, hF⟩
    refine ⟨_, boolL_map _, ?_⟩
    have ea : (rs.map (shown os.length false)).all id = rs.all (shown os.length false) := by rw [List.all_map]; rfl
    rw [ea]
    cases hra : rs.all (shown os.length false) with
    | false =>
      rw [hra] at hb
      exact wCond.f (hb rfl lh (Lx.refl _))
    | true =>
    rw [hra, Bool.true_and] at hg hb
    refine wCond.t ?_
    subst hB
    have eos : os = (os.map tupsOf).map PyData.tuple := by
      rw [List.map_map]
      conv => lhs; rw [← List.map_id os]
      refine List.map_congr_left fun c hc => ?_
      have := (List.all_eq_true.mp hdn) c hc
      cases hos c hc with
      | lst ds => cases this
      | tup vs _ _ => rfl
    simp
    refine ⟨rs, os.map tupsOf, by rw [← eos], by rw [List.length_map]; omega, fun v hv => by
      rw [List.length_map]
      exact shown_pv ((List.all_eq_true.mp hra) v hv), fun c hc v hv => by
      obtain ⟨d, hd, rfl⟩ := List.mem_map.mp hc
      have h1 := (List.all_eq_true.mp hdn) d hd
      rw [List.length_map]
      cases hos d hd with
      | lst ds => cases h1
      | tup vs _ _ =>
        have h2 : (!vs.isEmpty && vs.all (shown os.length true)) = true := h1
        rw [Bool.and_eq_true] at h2
        exact shown_pv ((List.all_eq_true.mp h2.2) v hv), fun q h1 lx hq e => ?_⟩
    simp [e, lv]
    rw [rgD_range, eqv_intsL]
    refine ⟨by omega, cl_ints, cl_ints, sh_ints, sh_ints, ?_⟩
    cases hm : decide (metL rs (os.map tupsOf) = rangeI os.length) with
    | true =>
      rw [hm] at hg
      exact wCond.t (hg rfl h1 lx)
    | false =>
      rw [hm] at hb
      exact wCond.f (hb rfl h1 lx)
end
end K37
set_option Elab.async false
set_option linter.all false
set_option maxRecDepth 100000
set_option maxHeartbeats 4000000
namespace K37
open PySem PySem.Spec PyProof.Rows L2 Evl Pd Wl
section
variable {P : Program} {w : World} {K : PySem.W.Frag} {mg : Str → Option Value} {base : Heap}
theorem cal__law_tape (S : Src K mg "_law_tape" st__law_tape ["script"]) (T : Txt K mg) : Cal P w K mg base CX0 1 "_law_tape" ["script"] (SpW K D_tape) := by
  have sc := sc__law_tape
  refine S.cal (k := 0) sc (SpW.len fun ds h P z => by obtain ⟨_, rfl, _⟩ := z; rfl) (fun f cdv A outer s H vs Q E hr h => ⟨_, (pss_cons (ps_set (i := 1) sc.nd rfl (by first | exact Or.inl rfl | exact Or.inr rfl) pe_int)
  (pss_cons (ps_for PassesOwn.never rfl (k_pi_list (K := K) rfl (pv 0)) (pg_name (i := 2) sc.nd rfl (by first | exact Or.inl rfl | exact Or.inr rfl)) (pss_one (ps_set (i := 1) sc.nd rfl (by first | exact Or.inl rfl | exact Or.inr rfl) (pe_op op_mod (pe_callTy call_int1 (by rfl) T.n_int (by decide +kernel) (pa_cons (pe_op op_add (pe_op op_mul (pv 1) pe_int) (pv 2)) pa_nil)) pe_int))))
  (pss_one (ps_ret (pe_ref (pe_lst (pa_cons (pe_ref (pe_lc (own := [("cell", 2)]) rfl sc.nd (k_pi_list (K := K) rfl (pv 0)) (blkOk_by (by first | decide +kernel | kernel_rfl)) (fun _ _ _ _ _ => (pg_name (i := 2) sc.nd rfl (by first | exact Or.inl rfl | exact Or.inr rfl))) (fun _ _ _ _ _ => pts_nil) (fun _ _ _ _ _ => (pe_callB call_abs (by rfl) T.n_abs (by decide +kernel) (pa_cons (pe_callTy call_int1 (by rfl) T.n_int (by decide +kernel) (pa_cons (pv 2) pa_nil)) pa_nil))))) (pa_cons (pe_op op_add (pv 1) pe_int) pa_nil)))))))), h.enter fun ds lh P hD => ?_⟩)
  obtain ⟨ns, rfl, hl, hk⟩ := hD
  simp
  refine forL_run (fun ds ρ h => h = lh ∧ ∃ (ms : List Int) (s : Int) (x : Option PyData), ds = ms.map .int ∧ 0 ≤ s ∧ s < 1000003 ∧ ρ = [some (.dict [(.none, .tuple (ns.map .int))]), some (.int s), x]) ?_ ?_ ⟨rfl, ns, 7, none, rfl, by omega, by omega, rfl⟩
  · rintro d ds ρ h ⟨rfl, ms, s, x, e, s1, s2, rfl⟩
    refine ⟨trivial, fun F hF => ?_⟩
    cases ms with
    | nil => cases e
    | cons m ms =>
      cases e
      simp [CMul]
      exact hF _ _ ⟨rfl, ms, _, _, rfl, Int.emod_nonneg _ (by decide), Int.emod_lt_of_pos _ (by decide), rfl⟩
  · rintro ρ h ⟨rfl, ms, s, x, e, s1, s2, rfl⟩
    refine ⟨trivial, ?_⟩
    simp
    refine lcL_map (emb := PyData.int) (fun n => .int (if n < 0 then -n else n)) (by simp) (by omega) (fun n hn F hF => ?_) ?_
    · simp; exact hF
    · intro c hc _ t ht ht2
      refine hk t c _ ht hc ⟨⟨fun z => ?_, ⟨s + 1, ?_, by omega, by omega⟩, ⟨ns.map fun n => if n < 0 then -n else n, ?_, by simpa using hl, ?_⟩⟩, fun a o n1 n2 e => ?_⟩
      · subst z; rw [up_same] at ht2; cases ht2
      · exact up_same
      · rw [up_ne (fun z => by subst z; rw [up_same] at ht2; cases ht2), up_same, List.map_map]; rfl
      · intro n hn
        obtain ⟨m, _, rfl⟩ := List.mem_map.mp hn
        split <;> omega
      · rw [up_ne n1, up_ne n2]; exact e
theorem cal__law_draw (S : Src K mg "_law_draw" st__law_draw ["tape", "many"]) (T : Txt K mg) : Cal P w K mg base CX0 1 "_law_draw" ["tape", "many"] (SpW K D_draw) := by
  have sc := sc__law_draw
  refine S.cal (k := 0) sc (SpW.len fun ds h P z => by obtain ⟨_, _, _, rfl, _⟩ := z; rfl) (fun f cdv A outer s H vs Q E hr h => ⟨_, (pss_cons (ps_set (i := 2) sc.nd rfl (by first | exact Or.inl rfl | exact Or.inr rfl) (pe_ix (k_ix_list (K := K) rfl) (pv 0) pe_int (fun _ _ => rfl)))
  (pss_cons (ps_while PassesOwn.never (PW.pt (pw_and (pt_cmpR op_gt (pe_callB (k_len_seq (K := K) rfl) (by rfl) T.n_len PySem.boot_len (pa_cons (pv 2) pa_nil)) pe_int (nomark _)) (pw_and1 (pt_cmpR op_eq (pe_ix (k_ix_list (K := K) rfl) (pv 2) pe_int (fun _ _ => rfl)) pe_int (nomark _))))) (pss_one (ps_expr (k_pop (K := K) rfl (pv 2) (pa_cons pe_int pa_nil)))))
  (pss_cons (ps_if (pt_cmpR op_gt (pe_callB (k_len_seq (K := K) rfl) (by rfl) T.n_len PySem.boot_len (pa_cons (pv 2) pa_nil)) pe_int (nomark _)) (pss_cons (ps_set (i := 3) sc.nd rfl (by first | exact Or.inl rfl | exact Or.inr rfl) (pe_ix (k_ix_list (K := K) rfl) (pv 2) pe_int (fun _ _ => rfl)))
  (pss_cons (ps_asg (pe_op op_fdiv (pv 3) (pv 1)) (pg_sub (pv 2) pe_int set_list))
  (pss_one (ps_ret (pe_op op_mod (pe_callTy call_int1 (by rfl) T.n_int (by decide +kernel) (pa_cons (pv 3) pa_nil)) (pv 1)))))) pss_nil)
  (pss_cons (ps_asg (pe_op op_mod (pe_callTy call_int1 (by rfl) T.n_int (by decide +kernel) (pa_cons (pe_op op_add (pe_op op_mul (pe_ix (k_ix_list (K := K) rfl) (pv 0) pe_int (fun _ _ => rfl)) pe_int) pe_int) pa_nil)) pe_int) (pg_sub (pv 0) pe_int set_list))
  (pss_one (ps_ret (pe_op op_mod (pe_callTy call_int1 (by rfl) T.n_int (by decide +kernel) (pa_cons (pe_op op_fdiv (pe_ix (k_ix_list (K := K) rfl) (pv 0) pe_int (fun _ _ => rfl)) pe_int) pa_nil)) (pv 1)))))))), h.enter fun ds lh P hD => ?_⟩)
  obtain ⟨t, c, m, rfl, ⟨ne, ⟨s, ht, s1, s2⟩, ns, hc, hl, hp⟩, h1, h2, hk⟩ := hD
  simp [ht]
  refine wWhile_run (fun n ρ h => ∃ ms : List Int, n = ms.length ∧ ρ = [some (rf t), some (.int (m : Nat)), some (rf c), none] ∧ h t = some (.lst [rf c, .int s]) ∧ h c = some (.lst (ms.map .int)) ∧ ms.length ≤ 63 ∧ (∀ n ∈ ms, 0 ≤ n) ∧ ∀ a o, a ≠ t → a ≠ c → lh a = some o → h a = some o) ns.length ⟨ns, rfl, rfl, ht, hc, hl, hp, fun _ _ _ _ e => e⟩ ?_
  rintro n ρ h ⟨ms, rfl, rfl, ht, hc, hl, hp, fr⟩ F hF
  cases ms with
  | nil =>
    simp at hc
    simp [hc, ht, CMul, ne, Ne.symm ne, up_ne]
    have m1 := Int.emod_nonneg (s * 48271 + 12345) (show (2147483647 : Int) ≠ 0 by decide)
    have m2 := Int.emod_lt_of_pos (s * 48271 + 12345) (show (0 : Int) < 2147483647 by decide)
    refine ⟨⟨by omega, by omega⟩, by omega, ?_⟩
    have z1 := Int.emod_nonneg ((s * 48271 + 12345) % 2147483647 / 64) (show (m : Int) ≠ 0 by omega)
    have z2 := Int.emod_lt_of_pos ((s * 48271 + 12345) % 2147483647 / 64) (show (0 : Int) < m by omega)
    have em : (s * 48271 + 12345) % 2147483647 / 64 % (m : Int) = (((s * 48271 + 12345) % 2147483647 / 64 % (m : Int)).toNat : Int) := by omega
    rw [em]
    exact hk _ (by omega) _ ⟨⟨ne, ⟨_, up_same, m1, m2⟩, [], by rw [up_ne ne]; exact hc, Nat.zero_le _, fun _ z => by cases z⟩, fun a o n1 n2 e => by rw [up_ne n1]; exact fr a o n1 n2 e⟩
  | cons a l =>
    simp at hc
    simp [hc, ht]
    have pa := hp a (List.mem_cons_self ..)
    have pl := fun n hn => hp n (List.mem_cons_of_mem a hn)
    simp at hl
    refine wCond.p (fun a0 => ?_) fun a0 => ?_
    · exact hF l.length _ _ (by simp) ⟨l, rfl, rfl, by rw [up_ne (Ne.symm ne)]; exact ht, up_same, by omega, pl, fun a o n1 n2 e => by rw [up_ne n2]; exact fr a o n1 n2 e⟩
    · refine ⟨⟨by omega, by omega⟩, by omega, ?_⟩
      have m1 := Int.emod_nonneg a (show (m : Int) ≠ 0 by omega)
      have m2 := Int.emod_lt_of_pos a (show (0 : Int) < m by omega)
      have em : a % (m : Int) = ((a % (m : Int)).toNat : Int) := by omega
      rw [em]
      refine hk _ (by omega) _ ⟨⟨ne, ⟨s, by rw [up_ne (Ne.symm ne)]; exact ht, s1, s2⟩, a / (m : Int) :: l, by rw [up_same, List.map_cons], by simp; omega, fun n hn => ?_⟩, fun a o n1 n2 e => by rw [up_ne n2]; exact fr a o n1 n2 e⟩
      rcases List.mem_cons.mp hn with rfl | hn
      · exact Int.ediv_nonneg pa (by omega)
      · exact pl n hn
theorem cal__law_pick (S : Src K mg "_law_pick" st__law_pick ["tape", "row"]) (T : Txt K mg) (C__law_draw : Cal P w K mg base CX0 1 "_law_draw" ["tape", "many"] (SpW K D_draw)) : Cal P w K mg base CX0 2 "_law_pick" ["tape", "row"] (SpW K D_pick) := by
  have sc := sc__law_pick
  refine S.cal (k := 1) sc (SpW.len fun ds h P z => by obtain ⟨_, _, _, rfl, _⟩ := z; rfl) (fun f cdv A outer s H vs Q E hr h => ⟨_, (pss_one (ps_ret (pe_ix (k_ix_list (K := K) rfl) (pv 1) (pe_cal C__law_draw (hr.mono (by first | decide | omega)) rfl pass0 (pa_cons (pv 0) (pa_cons (pe_callB (k_len_seq (K := K) rfl) (by rfl) T.n_len PySem.boot_len (pa_cons (pv 1) pa_nil)) pa_nil))) (fun _ _ => rfl)))), h.enter fun ds lh P hD => ?_⟩)
  obtain ⟨t, c, es, rfl, T0, hne, hl, hk⟩ := hD
  simp
  refine D_draw_run T0 (by cases es with | nil => exact absurd rfl hne | cons a l => simp) hl fun r hr h' g => ?_
  simp
  exact ⟨es[r], atI_nat (j := r) (by simp [hr]), hk _ (List.getElem_mem hr) h' g⟩
end
end K37
set_option Elab.async false
set_option linter.all false
set_option maxRecDepth 100000
set_option maxHeartbeats 4000000
set_option synthInstance.maxHeartbeats 1000000
set_option synthInstance.maxSize 1000000
namespace K37
open PySem PySem.Spec PyProof.Rows L2 Evl Pd Wl
theorem eqv_ref {S : Int → Prop} {v : PyData} (h : QV S v) {n : Int} : PyData.eqv v (ref n) = decide (refOf v = some n) := by
  rcases h with rfl | ⟨i, rfl⟩ | ⟨m, rfl, _⟩
  · rfl
  · rfl
  · simp only [PyData.eqv, PyData.eqvAll, refOf_ref]
    rw [Bool.eq_iff_iff]
    simp
theorem mem_scan {c : List PyData} {f : List Int} {n : Int} : n ∈ scan c f ↔ n ∈ f ∨ ∃ v ∈ c, refOf v = some n := by
  induction c generalizing f with
  | nil => simp
  | cons v c ih =>
    rw [scan_cons, ih]
    have : n ∈ add1 f v ↔ n ∈ f ∨ refOf v = some n := by
      unfold add1
      cases e : refOf v with
      | none => simp
      | some m =>
        simp only
        split
        · rename_i hm
          constructor
          · exact .inl
          · rintro (h | h)
            · exact h
            · cases h; exact hm
        · rw [List.mem_append, List.mem_singleton]
          constructor
          · rintro (h | rfl)
            · exact .inl h
            · exact .inr rfl
          · rintro (h | h)
            · exact .inl h
            · cases h; exact .inr rfl
    rw [this]
    constructor
    · rintro ((h | h) | ⟨u, hu, e⟩)
      · exact .inl h
      · exact .inr ⟨v, by simp, h⟩
      · exact .inr ⟨u, by simp [hu], e⟩
    · rintro (h | ⟨u, hu, e⟩)
      · exact .inl (.inl h)
      · rcases List.mem_cons.mp hu with rfl | hu
        · exact .inl (.inr e)
        · exact .inr ⟨u, hu, e⟩
theorem scan_filter (f : List Int) : ∀ (k : Nat) (c : List PyData), c.length = k → scan c f = f ++ (scan c []).filter fun n => !decide (n ∈ f)
  | 0, c, h => by
    have : c = [] := List.length_eq_zero_iff.mp h
    subst this; simp
  | k + 1, c, h => by
    rcases List.eq_nil_or_concat c with rfl | ⟨bs, v, rfl⟩
    · simp at h
    rw [List.concat_eq_append] at h ⊢
    have hb : bs.length = k := by simpa using h
    have ih := scan_filter f k bs hb
    rw [scan_append, scan_append]
    show add1 (scan bs f) v = f ++ (add1 (scan bs []) v).filter _
    unfold add1
    cases e : refOf v with
    | none => exact ih
    | some n =>
      simp only
      by_cases h0 : n ∈ scan bs []
      · have h1 : n ∈ scan bs f := by
          rw [mem_scan] at h0 ⊢
          exact h0.elim (fun z => absurd z List.not_mem_nil) .inr
        rw [if_pos h0, if_pos h1]
        exact ih
      · rw [if_neg h0, List.filter_append]
        by_cases hf : n ∈ f
        · have h1 : n ∈ scan bs f := mem_scan.mpr (.inl hf)
          rw [if_pos h1, ih]
          simp [hf]
        · have h1 : n ∉ scan bs f := fun z => by
            rcases mem_scan.mp z with z | z
            · exact hf z
            · exact h0 (mem_scan.mpr (.inr z))
          rw [if_neg h1, ih]
          simp [hf]
theorem any_ref {S : Int → Prop} {c : List PyData} (h : ∀ v ∈ c, QV S v) {n : Int} : (c.any fun z => PyData.eqv z (ref n)) = decide (n ∈ scan c []) := by
  rw [Bool.eq_iff_iff, List.any_eq_true, decide_eq_true_eq, mem_scan]
  constructor
  · rintro ⟨v, hv, e⟩
    rw [eqv_ref (h v hv)] at e
    exact .inr ⟨v, hv, of_decide_eq_true e⟩
  · rintro (e | ⟨v, hv, e⟩)
    · cases e
    · exact ⟨v, hv, by rw [eqv_ref (h v hv)]; exact decide_eq_true e⟩
theorem qv_cl {S : Int → Prop} : ∀ {vs : List PyData}, (∀ v ∈ vs, QV S v) → cleans vs = true
  | [], _ => rfl
  | v :: vs, h => by
    have h1 : clean v = true := by rcases h v (by simp) with rfl | ⟨i, rfl⟩ | ⟨m, rfl, _⟩ <;> rfl
    show (clean v && cleans vs) = true
    rw [h1, qv_cl fun u hu => h u (by simp [hu])]; rfl
theorem qv_dm {S : Int → Prop} {v : PyData} (h : QV S v) (L : Nat) (hL : 2 ≤ L) : Dm L 1 v := by
  rcases h with rfl | ⟨i, rfl⟩ | ⟨m, rfl, _⟩
  · exact .non 1
  · exact .int 1 i
  · exact .tup 0 _ (by simpa using hL) (fun d hd => by
      simp only [List.mem_cons, List.not_mem_nil, or_false] at hd
      rcases hd with rfl | rfl
      · exact .str 0 _ (by decide +kernel)
      · exact .int 0 m)
theorem qv_sh {S : Int → Prop} {v : PyData} (h : QV S v) : SeqAt.shaped v = true := (qv_dm h 2 (Nat.le_refl _)).sh (by decide)
theorem qvs_sh {S : Int → Prop} {vs : List PyData} (h : ∀ v ∈ vs, QV S v) : SeqAt.shaped (.tuple vs) = true ∧ SeqAt.shaped (.list vs) = true := ⟨(Dm.tup (L := vs.length + 2) 1 vs (by omega) fun d hd => qv_dm (h d hd) _ (by omega)).sh (by decide), (Dm.lst (L := vs.length + 2) 1 vs (by omega) fun d hd => qv_dm (h d hd) _ (by omega)).sh (by decide)⟩
theorem cut_take {vs : List PyData} {k : Nat} (h : k ≤ vs.length) : Pd.cutD vs none (some (k : Int)) = vs.take k := by
  unfold Pd.cutD
  have e1 : HT.sIx vs.length vs.length (some (k : Int)) = min k vs.length := HT.sIx_nat _ _ k
  rw [HT.sIx_none, e1, Nat.min_eq_left h, List.drop_zero, Nat.sub_zero]
section
variable {P : Program} {w : World} {K : PySem.W.Frag} {mg : Str → Option Value} {base : Heap}
def D_firstL (ds : List PyData) (h : Lh) (P : Wv) : Prop := ∃ (vs : List PyData) (S : Int → Prop), ds = [.list vs] ∧ vs.length ≤ 50 ∧ (∀ v ∈ vs, QV S v) ∧ P (.list ((scan vs []).map ref)) h
def D_firstT (ds : List PyData) (h : Lh) (P : Wv) : Prop := ∃ (vs : List PyData) (S : Int → Prop), ds = [.tuple vs] ∧ vs.length ≤ 50 ∧ (∀ v ∈ vs, QV S v) ∧ P (.list ((scan vs []).map ref)) h
abbrev D_first (ds : List PyData) (h : Lh) (P : Wv) : Prop := D_firstL ds h P ∨ D_firstT ds h P
theorem cal_first (S : Src K mg "_law_first" st__law_first ["values"]) (T : Txt K mg) : Cal P w K mg base CX0 1 "_law_first" ["values"] (SpW K D_first) := by
  have sc := sc__law_first
  refine S.cal (k := 0) sc (SpW.len fun ds h P z => by rcases z with z | z <;> (obtain ⟨_, _, rfl, _⟩ := z; rfl)) (fun f cdv A outer s H vs Q E hr h => ?_)
  rcases SpW.or h with h | h
  · refine ⟨_, (pss_one (ps_ret (pe_lc (own := [("k", 1)]) rfl sc.nd (pi_range1 (by rfl) T.n_range (pa_cons (pe_callB (k_len_seq (K := K) rfl) (by rfl) T.n_len PySem.boot_len (pa_cons (pv 0) pa_nil)) pa_nil)) (blkOk_by (by first | decide +kernel | kernel_rfl)) (fun _ _ _ _ _ => (pg_name (i := 1) sc.nd rfl (by first | exact Or.inl rfl | exact Or.inr rfl))) (fun _ _ _ _ _ => (pts_one (PW.pt (pw_and (pt_val (pe_callB (k_isi (K := K) rfl) (by rfl) T.n_isinstance (by decide +kernel) (pa_cons (pe_ix (k_ix_list (K := K) rfl) (pv 0) (pv 1) (fun _ _ => rfl)) (pa_cons (pe_bltn (v := .ty "tuple") (by rfl) T.n_tuple (by decide +kernel) rfl) pa_nil)))) (pw_and1 (pt_cmpR (k_notInD (K := K) rfl hr) (pe_ix (k_ix_list (K := K) rfl) (pv 0) (pv 1) (fun _ _ => rfl)) (pe_slice (k_sl_list (K := K) rfl) (pv 0) po_none (po_some (pv 1))) (by rfl))))))) (fun _ _ _ _ _ => (pe_ix (k_ix_list (K := K) rfl) (pv 0) (pv 1) (fun _ _ => rfl)))))), h.enter fun ds lh P hD => ?_⟩
    obtain ⟨vs, Sk, rfl, hl, hv, hk⟩ := hD
    simp [lv, qv]
    have er : rgD 0 ((vs.length : Nat) : Int) = rgD ((0 : Nat) : Int) ((vs.length : Nat) : Int) := rfl
    rw [er]
    refine ⟨by omega, ?_⟩
    refine lcL_run (fun ds acc h => ∃ k : Nat, k ≤ vs.length ∧ ds = rgD (k : Int) (vs.length : Int) ∧ acc = (scan (vs.take k) []).map ref ∧ (scan (vs.take k) []).length ≤ k ∧ lh = h) ?_ ?_ ?_
    rotate_left 2
    · exact ⟨0, Nat.zero_le _, rfl, rfl, Nat.le_refl _, rfl⟩
    · rintro d ds acc h ⟨k, hk1, ed, rfl, hsl, rfl⟩
      rcases Nat.lt_or_ge k vs.length with c1 | c1
      · rw [rgD_cons (by omega : (k : Int) < vs.length)] at ed
        obtain ⟨rfl, rfl⟩ := List.cons.inj ed
        refine ⟨trivial, by rw [List.length_map]; omega, fun F hF => ?_⟩
        have hvk := hv vs[k] (List.getElem_mem c1)
        have eat : atI vs (k : Int) = some vs[k] := atI_nat (List.getElem?_eq_getElem c1)
        have tk : vs.take (k + 1) = vs.take k ++ [vs[k]] := List.take_succ_eq_append_getElem c1
        have sc1 : scan (vs.take (k + 1)) [] = add1 (scan (vs.take k) []) vs[k] := by rw [tk, scan_append]; rfl
        have qt : ∀ v ∈ vs.take k, QV Sk v := fun v hv' => hv v (List.mem_of_mem_take hv')
        have hF2 : (scan (vs.take (k + 1)) []).length ≤ k + 1 → F ((scan (vs.take (k + 1)) []).map ref) lh := fun z => hF _ lh ⟨k + 1, c1, rfl, rfl, z, rfl⟩
        rw [sc1] at hF2
        clear hF
        generalize vs[k] = v at hvk eat hF2 tk
        have sv := qv_sh hvk
        rcases hvk with rfl | ⟨i, rfl⟩ | ⟨n, rfl, _⟩
        · simp [lv, eat]
          exact hF2 (Nat.le_succ_of_le hsl)
        · simp [lv, eat]
          exact hF2 (Nat.le_succ_of_le hsl)
        · have ct := cut_take (vs := vs) (k := k) hk1
          simp only [add1, refOf_ref] at hF2
          simp [lv, eat, ct, sv, qv_cl qt, (qvs_sh qt).2, any_ref qt, in2]
          cases hm : decide (n ∈ scan (vs.take k) []) with
          | true =>
            rw [if_pos (of_decide_eq_true hm)] at hF2
            exact wCond.t (hF2 (Nat.le_succ_of_le hsl))
          | false =>
            rw [if_neg (of_decide_eq_false hm)] at hF2
            refine wCond.f ?_
            have := hF2 (by rw [List.length_append]; simp; omega)
            simpa using this
      · rw [rgD_nil (by omega)] at ed; cases ed
    · rintro acc h ⟨k, hk1, ed, rfl, hsl, rfl⟩
      have : k = vs.length := by
        rcases Nat.lt_or_ge k vs.length with c | c
        · rw [rgD_cons (by omega : (k : Int) < vs.length)] at ed; cases ed
        · omega
      subst this
      rw [List.take_length]
      exact ⟨trivial, hk⟩
  · refine ⟨_, (pss_one (ps_ret (pe_lc (own := [("k", 1)]) rfl sc.nd (pi_range1 (by rfl) T.n_range (pa_cons (pe_callB (k_len_seq (K := K) rfl) (by rfl) T.n_len PySem.boot_len (pa_cons (pv 0) pa_nil)) pa_nil)) (blkOk_by (by first | decide +kernel | kernel_rfl)) (fun _ _ _ _ _ => (pg_name (i := 1) sc.nd rfl (by first | exact Or.inl rfl | exact Or.inr rfl))) (fun _ _ _ _ _ => (pts_one (PW.pt (pw_and (pt_val (pe_callB (k_isi (K := K) rfl) (by rfl) T.n_isinstance (by decide +kernel) (pa_cons (pe_ix (k_ix_tup (K := K) rfl) (pv 0) (pv 1) (fun _ _ => rfl)) (pa_cons (pe_bltn (v := .ty "tuple") (by rfl) T.n_tuple (by decide +kernel) rfl) pa_nil)))) (pw_and1 (pt_cmpR (k_notInT (K := K) rfl (hr.units)) (pe_ix (k_ix_tup (K := K) rfl) (pv 0) (pv 1) (fun _ _ => rfl)) (pe_slice (k_sl_tupA (K := K) rfl) (pv 0) po_none (po_some (pv 1))) (by rfl))))))) (fun _ _ _ _ _ => (pe_ix (k_ix_tup (K := K) rfl) (pv 0) (pv 1) (fun _ _ => rfl)))))), h.enter fun ds lh P hD => ?_⟩
    obtain ⟨vs, Sk, rfl, hl, hv, hk⟩ := hD
    simp [lv, qv]
    have er : rgD 0 ((vs.length : Nat) : Int) = rgD ((0 : Nat) : Int) ((vs.length : Nat) : Int) := rfl
    rw [er]
    refine ⟨by omega, ?_⟩
    refine lcL_run (fun ds acc h => ∃ k : Nat, k ≤ vs.length ∧ ds = rgD (k : Int) (vs.length : Int) ∧ acc = (scan (vs.take k) []).map ref ∧ (scan (vs.take k) []).length ≤ k ∧ lh = h) ?_ ?_ ?_
    rotate_left 2
    · exact ⟨0, Nat.zero_le _, rfl, rfl, Nat.le_refl _, rfl⟩
    · rintro d ds acc h ⟨k, hk1, ed, rfl, hsl, rfl⟩
      rcases Nat.lt_or_ge k vs.length with c1 | c1
      · rw [rgD_cons (by omega : (k : Int) < vs.length)] at ed
        obtain ⟨rfl, rfl⟩ := List.cons.inj ed
        refine ⟨trivial, by rw [List.length_map]; omega, fun F hF => ?_⟩
        have hvk := hv vs[k] (List.getElem_mem c1)
        have eat : atI vs (k : Int) = some vs[k] := atI_nat (List.getElem?_eq_getElem c1)
        have tk : vs.take (k + 1) = vs.take k ++ [vs[k]] := List.take_succ_eq_append_getElem c1
        have sc1 : scan (vs.take (k + 1)) [] = add1 (scan (vs.take k) []) vs[k] := by rw [tk, scan_append]; rfl
        have qt : ∀ v ∈ vs.take k, QV Sk v := fun v hv' => hv v (List.mem_of_mem_take hv')
        have hF2 : (scan (vs.take (k + 1)) []).length ≤ k + 1 → F ((scan (vs.take (k + 1)) []).map ref) lh := fun z => hF _ lh ⟨k + 1, c1, rfl, rfl, z, rfl⟩
        rw [sc1] at hF2
        clear hF
        generalize vs[k] = v at hvk eat hF2 tk
        have sv := qv_sh hvk
        rcases hvk with rfl | ⟨i, rfl⟩ | ⟨n, rfl, _⟩
        · simp [lv, eat]
          exact hF2 (Nat.le_succ_of_le hsl)
        · simp [lv, eat]
          exact hF2 (Nat.le_succ_of_le hsl)
        · have ct := cut_take (vs := vs) (k := k) hk1
          simp only [add1, refOf_ref] at hF2
          simp [lv, eat, ct, sv, qv_cl qt, (qvs_sh qt).1, any_ref qt, in2]
          cases hm : decide (n ∈ scan (vs.take k) []) with
          | true =>
            rw [if_pos (of_decide_eq_true hm)] at hF2
            exact wCond.t (hF2 (Nat.le_succ_of_le hsl))
          | false =>
            rw [if_neg (of_decide_eq_false hm)] at hF2
            refine wCond.f ?_
            have := hF2 (by rw [List.length_append]; simp; omega)
            simpa using this
      · rw [rgD_nil (by omega)] at ed; cases ed
    · rintro acc h ⟨k, hk1, ed, rfl, hsl, rfl⟩
      have : k = vs.length := by
        rcases Nat.lt_or_ge k vs.length with c | c
        · rw [rgD_cons (by omega : (k : Int) < vs.length)] at ed; cases ed
        · omega
      subst this
      rw [List.take_length]
      exact ⟨trivial, hk⟩
def D_renL (ds : List PyData) (h : Lh) (P : Wv) : Prop := ∃ (vs : List PyData) (M : List Int), ds = [.list vs, .list (M.map PyData.int)] ∧ vs.length ≤ 50 ∧ M.length ≤ 1000 ∧ (∀ v ∈ vs, QV (· ∈ M) v) ∧ P (.list (vs.map (renV M))) h
def D_renT (ds : List PyData) (h : Lh) (P : Wv) : Prop := ∃ (vs : List PyData) (M : List Int), ds = [.tuple vs, .list (M.map PyData.int)] ∧ vs.length ≤ 50 ∧ M.length ≤ 1000 ∧ (∀ v ∈ vs, QV (· ∈ M) v) ∧ P (.list (vs.map (renV M))) h
abbrev D_ren (ds : List PyData) (h : Lh) (P : Wv) : Prop := D_renL ds h P ∨ D_renT ds h P
theorem idx_int {L : List Int} {m : Int} (h : m ∈ L) : (L.map PyData.int).findIdx (fun z => Wl.eq1 z (.int m)) = L.idxOf m := by
  rw [List.findIdx_map]
  unfold List.idxOf
  congr 1
theorem cal_ren (S : Src K mg "_law_renamed" st__law_renamed ["values", "met"]) (T : Txt K mg) : Cal P w K mg base CX0 1 "_law_renamed" ["values", "met"] (SpW K D_ren) := by
  have sc := sc__law_renamed
  refine S.cal (k := 0) sc (SpW.len fun ds h P z => by rcases z with z | z <;> (obtain ⟨_, _, rfl, _⟩ := z; rfl)) (fun f cdv A outer s H vs Q E hr h => ?_)
  rcases SpW.or h with h | h
  · refine ⟨_, (pss_one (ps_ret (pe_lc (own := [("value", 2)]) rfl sc.nd (k_pi_list (K := K) rfl (pv 0)) (blkOk_by (by first | decide +kernel | kernel_rfl)) (fun _ _ _ _ _ => (pg_name (i := 2) sc.nd rfl (by first | exact Or.inl rfl | exact Or.inr rfl))) (fun _ _ _ _ _ => pts_nil) (fun _ _ _ _ _ => (pe_ifExp (pt_val (pe_callB (k_isi (K := K) rfl) (by rfl) T.n_isinstance (by decide +kernel) (pa_cons (pv 2) (pa_cons (pe_bltn (v := .ty "tuple") (by rfl) T.n_tuple (by decide +kernel) rfl) pa_nil)))) (pe_tup (pa_cons pe_str (pa_cons (k_index (K := K) rfl (pv 1) (pa_cons (pe_ix (k_ix_tup (K := K) rfl) (pv 2) pe_int (fun _ _ => rfl)) pa_nil)) pa_nil))) (pv 2)))))), h.enter fun ds lh P hD => ?_⟩
    obtain ⟨vs, M, rfl, hl, hM, hv, hk⟩ := hD
    simp
    refine lcL_id (renV M) (by simp) (by omega) (fun v hv' F hF => ?_) hk
    have hvv := hv v hv'
    rcases hvv with rfl | ⟨i, rfl⟩ | ⟨m, rfl, hm⟩
    · simp; exact hF
    · simp; exact hF
    · have ex := idx_int (L := M) hm
      simp [lv]
      refine ⟨⟨_, ⟨m, hm, rfl⟩, by simp [Wl.eq1]⟩, ?_⟩
      rw [List.findIdx_map] at ex
      rw [ex]
      exact hF
  · refine ⟨_, (pss_one (ps_ret (pe_lc (own := [("value", 2)]) rfl sc.nd (k_pi_tup (K := K) rfl (pv 0)) (blkOk_by (by first | decide +kernel | kernel_rfl)) (fun _ _ _ _ _ => (pg_name (i := 2) sc.nd rfl (by first | exact Or.inl rfl | exact Or.inr rfl))) (fun _ _ _ _ _ => pts_nil) (fun _ _ _ _ _ => (pe_ifExp (pt_val (pe_callB (k_isi (K := K) rfl) (by rfl) T.n_isinstance (by decide +kernel) (pa_cons (pv 2) (pa_cons (pe_bltn (v := .ty "tuple") (by rfl) T.n_tuple (by decide +kernel) rfl) pa_nil)))) (pe_tup (pa_cons pe_str (pa_cons (k_index (K := K) rfl (pv 1) (pa_cons (pe_ix (k_ix_tup (K := K) rfl) (pv 2) pe_int (fun _ _ => rfl)) pa_nil)) pa_nil))) (pv 2)))))), h.enter fun ds lh P hD => ?_⟩
    obtain ⟨vs, M, rfl, hl, hM, hv, hk⟩ := hD
    simp
    refine lcL_id (renV M) trivial (by omega) (fun v hv' F hF => ?_) hk
    have hvv := hv v hv'
    rcases hvv with rfl | ⟨i, rfl⟩ | ⟨m, rfl, hm⟩
    · simp; exact hF
    · simp; exact hF
    · have ex := idx_int (L := M) hm
      simp [lv]
      refine ⟨⟨_, ⟨m, hm, rfl⟩, by simp [Wl.eq1]⟩, ?_⟩
      rw [List.findIdx_map] at ex
      rw [ex]
      exact hF
end
end K37
set_option Elab.async false
set_option linter.all false
set_option maxRecDepth 100000
set_option maxHeartbeats 1000000
namespace K37
open PySem PySem.Spec PyProof.Rows L2 Evl Pd Wl
def mkS (c s : Int) (ro : List PyData) (g0 g1 g2 : PyData) (lk : Int → List PyData) (n : Nat) : PSt := { cells := c, slots := s, roots := ro, regs := [[g0, g1, g2]], look := lk, count := n }
def updL (lk : Int → List PyData) (m : Int) (v : List PyData) : Int → List PyData := fun x => if x = m then v else lk x
theorem updL_same {lk : Int → List PyData} {m : Int} {v : List PyData} : updL lk m v m = v := if_pos rfl
theorem updL_ne {lk : Int → List PyData} {m x : Int} {v : List PyData} (h : x ≠ m) : updL lk m v x = lk x := if_neg h
def shv (v : PyData) : PyData := match refOf v with
  | some n => ref (n + 1)
  | none => v
section
variable {c s : Int} {ro : List PyData} {g0 g1 g2 : PyData} {lk : Int → List PyData} {n : Nat}
theorem st_drop0 : step (mkS c s ro g0 g1 g2 lk n) 0 (.drop 0) = (T1 "ok", mkS c s ro .none g1 g2 lk n) := rfl
theorem st_drop1 : step (mkS c s ro g0 g1 g2 lk n) 0 (.drop 1) = (T1 "ok", mkS c s ro g0 .none g2 lk n) := rfl
theorem st_drop2 : step (mkS c s ro g0 g1 g2 lk n) 0 (.drop 2) = (T1 "ok", mkS c s ro g0 g1 .none lk n) := rfl
theorem st_root {i : Nat} : step (mkS c s ro g0 g1 g2 lk n) 0 (.root i 1) = (T1 "ok", mkS c s (ro.set i g1) g0 g1 g2 lk n) := rfl
theorem onO_r {st : PSt} {m k : Int} {f : Int → PyData × PSt} (h : k < ((st.look m).length : Int)) : onO st (ref m) k f = f m := by
  unfold onO
  rw [refOf_ref]
  simp only
  rw [if_neg (by omega)]
theorem st_load1 {m : Int} {k : Nat} {j : Int} (hk : k < (lk m).length) (e : (lk m).getD k .none = ref j) : step (mkS c s ro (ref m) g1 g2 lk n) 0 (.load 1 0 k) = (T1 "ok", mkS c s ro (ref m) (ref j) g2 lk n) := by
  simp only [step]
  rw [show rv (mkS c s ro (ref m) g1 g2 lk n) 0 0 = ref m from rfl]
  rw [onO_r (by show (k : Int) < ((lk m).length : Int); omega)]
  have : cell (mkS c s ro (ref m) g1 g2 lk n) m k = ref j := by
    show (lk m).getD ((k : Int)).toNat .none = _
    rw [Int.toNat_natCast]; exact e
  rw [this]; rfl
theorem st_load2 {m : Int} {k : Nat} {j : Int} (hk : k < (lk m).length) (e : (lk m).getD k .none = ref j) : step (mkS c s ro (ref m) g1 g2 lk n) 0 (.load 2 0 k) = (T1 "ok", mkS c s ro (ref m) g1 (ref j) lk n) := by
  simp only [step]
  rw [show rv (mkS c s ro (ref m) g1 g2 lk n) 0 0 = ref m from rfl]
  rw [onO_r (by show (k : Int) < ((lk m).length : Int); omega)]
  have : cell (mkS c s ro (ref m) g1 g2 lk n) m k = ref j := by
    show (lk m).getD ((k : Int)).toNat .none = _
    rw [Int.toNat_natCast]; exact e
  rw [this]; rfl
theorem st_set {m : Int} {k : Nat} {x : Int} (hk : k < (lk m).length) : step (mkS c s ro g0 (ref m) g2 lk n) 0 (.set 1 k x) = (T1 "ok", mkS c s ro g0 (ref m) g2 (updL lk m ((lk m).set k (.int x))) n) := by
  simp only [step]
  rw [show rv (mkS c s ro g0 (ref m) g2 lk n) 0 1 = ref m from rfl]
  rw [onO_r (by show (k : Int) < ((lk m).length : Int); omega)]
  show (T1 "ok", setC (mkS c s ro g0 (ref m) g2 lk n) m k (.int x)) = _
  unfold setC mkS updL
  simp only [Int.toNat_natCast]
theorem st_store1 {m : Int} {k : Nat} (hk : k < (lk m).length) : step (mkS c s ro g0 (ref m) g2 lk n) 0 (.store 1 k 2) = (T1 "ok", mkS c s ro g0 (ref m) g2 (updL lk m ((lk m).set k g2)) n) := by
  simp only [step]
  rw [show rv (mkS c s ro g0 (ref m) g2 lk n) 0 1 = ref m from rfl]
  rw [onO_r (by show (k : Int) < ((lk m).length : Int); omega)]
  show (T1 "ok", setC (mkS c s ro g0 (ref m) g2 lk n) m k (rv (mkS c s ro g0 (ref m) g2 lk n) 0 2)) = _
  have : rv (mkS c s ro g0 (ref m) g2 lk n) 0 2 = g2 := rfl
  rw [this]
  unfold setC mkS updL
  simp only [Int.toNat_natCast]
theorem st_store0 {m : Int} {k : Nat} (hk : k < (lk m).length) : step (mkS c s ro (ref m) g1 g2 lk n) 0 (.store 0 k 1) = (T1 "ok", mkS c s ro (ref m) g1 g2 (updL lk m ((lk m).set k g1)) n) := by
  simp only [step]
  rw [show rv (mkS c s ro (ref m) g1 g2 lk n) 0 0 = ref m from rfl]
  rw [onO_r (by show (k : Int) < ((lk m).length : Int); omega)]
  show (T1 "ok", setC (mkS c s ro (ref m) g1 g2 lk n) m k (rv (mkS c s ro (ref m) g1 g2 lk n) 0 1)) = _
  have : rv (mkS c s ro (ref m) g1 g2 lk n) 0 1 = g1 := rfl
  rw [this]
  unfold setC mkS updL
  simp only [Int.toNat_natCast]
theorem st_put1 {z : Nat} (h : fits (mkS c s ro g0 g1 g2 lk n) z = true) : step (mkS c s ro g0 g1 g2 lk n) 0 (.put 1 z) = (T1 "ok", mkS c s ro g0 (ref n) g2 (updL lk n (List.replicate z .none)) (n + 1)) := by
  rw [step_put, h]
  rfl
theorem st_put0 {z : Nat} (h : fits (mkS c s ro g0 g1 g2 lk n) z = true) : step (mkS c s ro g0 g1 g2 lk n) 0 (.put 0 z) = (T1 "ok", mkS c s ro (ref n) g1 g2 (updL lk n (List.replicate z .none)) (n + 1)) := by
  rw [step_put, h]
  rfl
end
theorem sum_nn {f : Int → Int} (f0 : ∀ x, 0 ≤ f x) : ∀ L : List Int, 0 ≤ (L.map f).sum
  | [] => Int.le_refl _
  | a :: L => by have h1 := f0 a; have h2 := sum_nn f0 L; simp only [List.map_cons, List.sum_cons]; omega
theorem sum_erase {f : Int → Int} : ∀ {L : List Int} {a : Int}, a ∈ L → (L.map f).sum = f a + ((L.erase a).map f).sum
  | b :: L, a, h => by
    by_cases c : b = a
    · subst c; rw [List.erase_cons_head]; rfl
    · have h2 : a ∈ L := (List.mem_cons.mp h).elim (fun z => absurd z.symm c) id
      rw [List.erase_cons_tail (by simpa using c)]
      simp only [List.map_cons, List.sum_cons]
      rw [sum_erase h2]; omega
theorem sum_sub {f : Int → Int} (f0 : ∀ x, 0 ≤ f x) : ∀ {l L : List Int}, l.Nodup → (∀ x ∈ l, x ∈ L) → (l.map f).sum ≤ (L.map f).sum
  | [], L, _, _ => sum_nn f0 L
  | a :: l, L, h, hs => by
    have h2 := List.nodup_cons.mp h
    have := sum_sub f0 (l := l) (L := L.erase a) h2.2 fun x hx => (List.mem_erase_of_ne (fun z => by subst z; exact h2.1 hx)).mpr (hs x (by simp [hx]))
    rw [sum_erase (hs a (by simp)), List.map_cons, List.sum_cons]
    omega
/-- what is held and lies within the first numbers -/
theorem fits_in {st : PSt} {m : Nat} {z B : Int} (h1 : Rin (Kn m) (held st)) (h2 : ∀ k, Kn m k → Rin (Kn m) (st.look k)) (hB : ((rangeI m).map fun k => ((st.look k).length : Int)).sum ≤ B) (hc : B + z ≤ st.cells) (hs : (m : Int) < st.slots) : fits st z = true := by
  have hm := met_in h1 h2
  have nd := met_nodup (st := st)
  have l1 := len_kn nd hm
  have hu : used st ≤ B := Int.le_trans (sum_sub (fun x => by omega) nd fun x hx => by
    obtain ⟨a, b⟩ := hm x hx
    unfold rangeI
    exact List.mem_map.mpr ⟨x.toNat, List.mem_range.mpr (by omega), by omega⟩) hB
  unfold fits
  rw [decide_eq_true (by omega), decide_eq_true (by omega)]; rfl
end K37
set_option Elab.async false
set_option linter.all false
set_option maxRecDepth 100000
set_option maxHeartbeats 1000000
namespace K37
open PySem PySem.Spec PyProof.Rows L2 Evl Pd Wl
def tot (os : List (List PyData)) : Int := (os.map fun o => ((o.length : Nat) : Int)).sum
theorem tot_nn : ∀ os, 0 ≤ tot os
  | [] => Int.le_refl _
  | o :: os => by have := tot_nn os; unfold tot at this ⊢; simp only [List.map_cons, List.sum_cons]; omega
theorem tot_cons {o : List PyData} {os : List (List PyData)} : tot (o :: os) = o.length + tot os := rfl
def spn (n : Nat) : List PyData := (rangeI n).map fun j => ref (j + 1)
theorem rangeI_succ {n : Nat} : rangeI (n + 1) = rangeI n ++ [(n : Int)] := by unfold rangeI; rw [List.range_succ, List.map_append]; rfl
theorem rangeI_len {n : Nat} : (rangeI n).length = n := by simp [rangeI]
theorem mem_rangeI {n : Nat} {m : Int} : m ∈ rangeI n ↔ Kn n m := by
  unfold rangeI
  rw [List.mem_map]
  refine ⟨fun ⟨i, hi, e⟩ => ?_, fun ⟨h1, h2⟩ => ⟨m.toNat, List.mem_range.mpr (by omega), by omega⟩⟩
  have := List.mem_range.mp hi
  exact ⟨by omega, by omega⟩
theorem spn_len {n : Nat} : (spn n).length = n := by unfold spn; rw [List.length_map, rangeI_len]
theorem spn_succ {n : Nat} : spn (n + 1) = spn n ++ [ref ((n : Int) + 1)] := by unfold spn; rw [rangeI_succ, List.map_append]; rfl
theorem spn_at {n i : Nat} (h : i < n) : (spn n).getD i .none = ref ((i : Int) + 1) := by
  rw [getD_lt (by rw [spn_len]; exact h)]
  unfold spn rangeI
  simp
theorem spn_rin {n : Nat} : Rin (Kn (n + 1)) (spn n) := fun v hv m e => by
  obtain ⟨j, hj, rfl⟩ := List.mem_map.mp hv
  obtain ⟨h1, h2⟩ := mem_rangeI.mp hj
  cases e
  exact ⟨by omega, by omega⟩
theorem rep_rin {S : Int → Prop} {k : Nat} : Rin S (List.replicate k .none) := fun v hv m e => by
  rw [(List.mem_replicate.mp hv).2] at e; cases e
theorem set_mid {α : Type} {a b : List α} {x y : α} {i : Nat} (h : a.length = i) : (a ++ x :: b).set i y = a ++ y :: b := by
  subst h
  rw [List.set_append_right _ _ (Nat.le_refl _), Nat.sub_self]; rfl
theorem puts {c s : Int} {ro : List PyData} (hro : ∀ S, Rin S ro) : ∀ (os : List (List PyData)) (i : Nat) (lk : Int → List PyData) (g1 : PyData), lk 0 = spn i ++ List.replicate os.length .none → (∀ k, Kn (i + 1) k → k ≠ 0 → ∀ S, Rin S (lk k)) → Rin (Kn (i + 1)) [g1] →
    ((rangeI (i + 1)).map fun k => ((lk k).length : Int)).sum + tot os ≤ c → (i : Int) + os.length < s →
    ∃ lk' g1', RunOk (mkS c s ro (ref 0) g1 .none lk (i + 1)) (putOps os i) (mkS c s ro (ref 0) g1' .none lk' (i + 1 + os.length)) ∧ lk' 0 = spn (i + os.length) ∧ (∀ k, (h : k < os.length) → lk' (((i + k : Nat) : Int) + 1) = List.replicate os[k].length .none) ∧ ∀ m : Int, 0 < m → m ≤ i → lk' m = lk m
  | [], i, lk, g1, h0, _, _, _, _ => ⟨lk, g1, .nil _, by simpa using h0, fun k h => absurd h (Nat.not_lt_zero _), fun _ _ _ => rfl⟩
  | o :: os, i, lk, g1, h0, hk, hg, hB, hs => by
    rw [List.length_cons] at h0 hs
    rw [tot_cons] at hB
    have ht := tot_nn os
    have hf : fits (mkS c s ro (ref 0) g1 .none lk (i + 1)) (o.length : Nat) = true := by
      refine fits_in (m := i + 1) (B := ((rangeI (i + 1)).map fun k => ((lk k).length : Int)).sum) ?_ ?_ (Int.le_refl _) ?_ ?_
      · show Rin _ (ro ++ [[ref 0, g1, .none]].flatten)
        refine Rin.append (hro _) ?_
        intro v hv m e
        simp only [List.flatten_cons, List.flatten_nil, List.append_nil, List.mem_cons, List.not_mem_nil, or_false] at hv
        rcases hv with rfl | rfl | rfl
        · cases e; exact ⟨by omega, by omega⟩
        · exact hg _ (by simp) m e
        · cases e
      · intro k kn
        show Rin _ (lk k)
        by_cases c0 : k = 0
        · subst c0
          rw [h0]
          exact Rin.append spn_rin rep_rin
        · exact hk k kn c0 _
      · show _ ≤ c; omega
      · show ((i + 1 : Nat) : Int) < s; omega
    have s1 := st_put1 hf
    let lk1 := updL lk ((i + 1 : Nat) : Int) (List.replicate o.length .none)
    have e10 : lk1 0 = spn i ++ List.replicate (os.length + 1) .none := by
      show updL lk _ _ 0 = _
      rw [updL_ne (by omega), h0]
    have s2 := st_store0 (c := c) (s := s) (ro := ro) (g1 := ref ((i + 1 : Nat) : Int)) (g2 := .none) (lk := lk1) (n := i + 1 + 1) (m := 0) (k := i) (by rw [e10, List.length_append, spn_len, List.length_replicate]; omega)
    let lk2 := updL lk1 0 ((lk1 0).set i (ref ((i + 1 : Nat) : Int)))
    have e20 : lk2 0 = spn (i + 1) ++ List.replicate os.length .none := by
      show updL lk1 0 _ 0 = _
      rw [updL_same, e10, List.replicate_succ, set_mid spn_len, spn_succ, List.append_assoc]
      rfl
    have e2n : lk2 (((i : Nat) : Int) + 1) = List.replicate o.length .none := by
      show updL lk1 0 _ _ = _
      rw [updL_ne (by omega)]
      exact updL_same
    have e2o : ∀ m : Int, m ≠ 0 → m ≠ (i : Int) + 1 → lk2 m = lk m := fun m h1 h2 => by
      show updL lk1 0 _ m = _
      rw [updL_ne h1]
      exact updL_ne (by omega)
    have esum : ((rangeI (i + 1 + 1)).map fun k => ((lk2 k).length : Int)).sum = ((rangeI (i + 1)).map fun k => ((lk k).length : Int)).sum + o.length := by
      rw [rangeI_succ, List.map_append, List.sum_append]
      have a1 : ((rangeI (i + 1)).map fun k => ((lk2 k).length : Int)) = (rangeI (i + 1)).map fun k => ((lk k).length : Int) := List.map_congr_left fun k hk => by
        obtain ⟨k1, k2⟩ := mem_rangeI.mp hk
        by_cases c0 : k = 0
        · subst c0
          rw [e20, h0]
          simp only [List.length_append, spn_len, List.length_replicate]
          omega
        · rw [e2o k c0 (by omega)]
      rw [a1]
      simp only [List.map_cons, List.map_nil, List.sum_cons, List.sum_nil]
      rw [show (((i + 1 : Nat) : Int)) = (i : Int) + 1 by omega, e2n, List.length_replicate]
      omega
    obtain ⟨lk', g1', r, f1, f2, f3⟩ := puts (c := c) (s := s) hro os (i + 1) lk2 (ref ((i + 1 : Nat) : Int)) e20 (fun k kn k0 S => by
      by_cases c1 : k = (i : Int) + 1
      · subst c1; rw [e2n]; exact rep_rin
      · rw [e2o k k0 c1]; exact hk k ⟨kn.1, by have := kn.2; omega⟩ k0 S) (fun v hv m e => by
        cases List.mem_singleton.mp hv
        cases e
        exact ⟨by omega, by omega⟩) (by rw [esum]; omega) (by omega)
    refine ⟨lk', g1', .cons (by rw [s1]) (by rw [s1]; exact .cons (by rw [s2]) (by rw [s2]; rw [show i + 1 + (o :: os).length = i + 1 + 1 + os.length by rw [List.length_cons]; omega]; exact r)), by rw [f1]; congr 1; rw [List.length_cons]; omega, fun k h => ?_, fun m h1 h2 => ?_⟩
    · cases k with
      | zero =>
        have := f3 ((i : Int) + 1) (by omega) (by omega)
        show lk' (((i + 0 : Nat) : Int) + 1) = _
        rw [show (((i + 0 : Nat) : Int) + 1) = (i : Int) + 1 by omega, this]
        exact e2n
      | succ k =>
        have := f2 k (by simpa using h)
        rw [show (((i + (k + 1) : Nat) : Int) + 1) = (((i + 1 + k : Nat) : Int) + 1) by omega, this]
        rfl
    · rw [f3 m h1 (by omega)]
      exact e2o m (by omega) (by omega)
theorem fillC {c s : Int} {ro : List PyData} {cnt n i : Nat} (hi : i < n) : ∀ (vs : List PyData) (k : Nat) (dn : List PyData) (lk : Int → List PyData) (g1 g2 : PyData), lk 0 = spn n → lk ((i : Int) + 1) = dn ++ List.replicate vs.length .none → dn.length = k → (∀ v ∈ vs, PV n v) →
    ∃ lk' g1' g2', RunOk (mkS c s ro (ref 0) g1 g2 lk cnt) (cellOps i vs k) (mkS c s ro (ref 0) g1' g2' lk' cnt) ∧ lk' ((i : Int) + 1) = dn ++ vs.map shv ∧ ∀ m : Int, m ≠ (i : Int) + 1 → lk' m = lk m
  | [], k, dn, lk, g1, g2, h0, h1, hd, _ => ⟨lk, g1, g2, .nil _, by simpa using h1, fun _ _ => rfl⟩
  | v :: vs, k, dn, lk, g1, g2, h0, h1, hd, hv => by
    rw [List.length_cons, List.replicate_succ] at h1
    have hlk : k < (lk ((i : Int) + 1)).length := by rw [h1, List.length_append]; simp; omega
    have l1 := st_load1 (c := c) (s := s) (ro := ro) (g1 := g1) (g2 := g2) (lk := lk) (n := cnt) (m := 0) (k := i) (j := (i : Int) + 1) (by rw [h0, spn_len]; exact hi) (by rw [h0]; exact spn_at hi)
    have rec_ : ∀ (lk2 : Int → List PyData) (a1 a2 : PyData) (x : PyData), lk2 0 = spn n → lk2 ((i : Int) + 1) = dn ++ x :: List.replicate vs.length .none → (∀ m : Int, m ≠ (i : Int) + 1 → lk2 m = lk m) → x = shv v → RunOk (mkS c s ro (ref 0) g1 g2 lk cnt) (fillOps i k v) (mkS c s ro (ref 0) a1 a2 lk2 cnt) →
        ∃ lk' g1' g2', RunOk (mkS c s ro (ref 0) g1 g2 lk cnt) (cellOps i (v :: vs) k) (mkS c s ro (ref 0) g1' g2' lk' cnt) ∧ lk' ((i : Int) + 1) = dn ++ (v :: vs).map shv ∧ ∀ m : Int, m ≠ (i : Int) + 1 → lk' m = lk m := fun lk2 a1 a2 x z0 z1 z2 ex r => by
      obtain ⟨lk', b1, b2, r2, e1, e2⟩ := fillC hi vs (k + 1) (dn ++ [x]) lk2 a1 a2 z0 (by rw [z1, List.append_assoc]; rfl) (by rw [List.length_append, hd]; rfl) fun u hu => hv u (by simp [hu])
      refine ⟨lk', b1, b2, r.append r2, ?_, fun m hm => by rw [e2 m hm, z2 m hm]⟩
      rw [e1, ex, List.append_assoc]; rfl
    rcases hv v (by simp) with rfl | ⟨x, rfl, _⟩ | ⟨j, rfl, j0, j1⟩
    · exact rec_ lk g1 g2 .none h0 h1 (fun _ _ => rfl) rfl (.nil _)
    · have l2 := st_set (c := c) (s := s) (ro := ro) (g0 := ref 0) (g2 := g2) (lk := lk) (n := cnt) (m := (i : Int) + 1) (k := k) (x := x) hlk
      exact rec_ (updL lk ((i : Int) + 1) ((lk ((i : Int) + 1)).set k (.int x))) (ref ((i : Int) + 1)) g2 (.int x) (by rw [updL_ne (by omega)]; exact h0) (by rw [updL_same, h1, set_mid hd]) (fun m hm => updL_ne hm) rfl (.cons (by rw [l1]) (by rw [l1]; exact .one l2))
    · obtain ⟨jn, rfl⟩ : ∃ q : Nat, j = q := ⟨j.toNat, by omega⟩
      have l2 := st_load2 (c := c) (s := s) (ro := ro) (g1 := ref ((i : Int) + 1)) (g2 := g2) (lk := lk) (n := cnt) (m := 0) (k := jn) (j := (jn : Int) + 1) (by rw [h0, spn_len]; omega) (by rw [h0]; exact spn_at (by omega))
      have l3 := st_store1 (c := c) (s := s) (ro := ro) (g0 := ref 0) (g2 := ref ((jn : Int) + 1)) (lk := lk) (n := cnt) (m := (i : Int) + 1) (k := k) hlk
      exact rec_ (updL lk ((i : Int) + 1) ((lk ((i : Int) + 1)).set k (ref ((jn : Int) + 1)))) (ref ((i : Int) + 1)) (ref ((jn : Int) + 1)) (ref ((jn : Int) + 1)) (by rw [updL_ne (by omega)]; exact h0) (by rw [updL_same, h1, set_mid hd]) (fun m hm => updL_ne hm) rfl (.cons (by rw [l1]) (by rw [l1]; exact .cons (by rw [l2]) (by rw [l2]; exact .one l3)))
theorem fillO {c s : Int} {ro : List PyData} {cnt n : Nat} : ∀ (os : List (List PyData)) (i : Nat) (lk : Int → List PyData) (g1 g2 : PyData), lk 0 = spn n → i + os.length = n → (∀ k, (h : k < os.length) → lk (((i + k : Nat) : Int) + 1) = List.replicate os[k].length .none) → (∀ o ∈ os, ∀ v ∈ o, PV n v) →
    ∃ lk' g1' g2', RunOk (mkS c s ro (ref 0) g1 g2 lk cnt) (objOps os i) (mkS c s ro (ref 0) g1' g2' lk' cnt) ∧ lk' 0 = spn n ∧ (∀ k, (h : k < os.length) → lk' (((i + k : Nat) : Int) + 1) = os[k].map shv) ∧ ∀ m : Int, m ≤ i → lk' m = lk m
  | [], i, lk, g1, g2, h0, _, _, _ => ⟨lk, g1, g2, .nil _, h0, fun k h => absurd h (Nat.not_lt_zero _), fun _ _ => rfl⟩
  | o :: os, i, lk, g1, g2, h0, hn, h1, hv => by
    rw [List.length_cons] at hn
    have q := h1 0 (by simp)
    obtain ⟨lk1, a1, a2, r1, e1, e2⟩ := fillC (c := c) (s := s) (ro := ro) (cnt := cnt) (n := n) (i := i) (by omega) o 0 [] lk g1 g2 h0 (by simpa using q) rfl (hv o (by simp))
    obtain ⟨lk2, b1, b2, r2, f0, f1, f2⟩ := fillO (c := c) (s := s) (ro := ro) (cnt := cnt) (n := n) os (i + 1) lk1 a1 a2 (by rw [e2 0 (by omega)]; exact h0) (by omega) (fun k h => by
      have := h1 (k + 1) (by simpa using h)
      rw [e2 _ (by omega), show (((i + 1 + k : Nat) : Int) + 1) = (((i + (k + 1) : Nat) : Int) + 1) by omega, this]; rfl) fun o' ho' => hv o' (by simp [ho'])
    refine ⟨lk2, b1, b2, r1.append r2, f0, fun k h => ?_, fun m hm => by rw [f2 m (by omega), e2 m (by omega)]⟩
    cases k with
    | zero =>
      rw [f2 _ (by omega), show (((i + 0 : Nat) : Int) + 1) = (i : Int) + 1 by omega, e1]; rfl
    | succ k =>
      have := f1 k (by simpa using h)
      rw [show (((i + (k + 1) : Nat) : Int) + 1) = (((i + 1 + k : Nat) : Int) + 1) by omega, this]; rfl
theorem rootO {c s : Int} {lk : Int → List PyData} {cnt n : Nat} (g0 g2 : PyData) (hg : 0 < n → g0 = ref 0 ∧ lk 0 = spn n) : ∀ (rs : List PyData) (i : Nat) (dn : List PyData) (g1 : PyData), dn.length = i → (∀ v ∈ rs, v = .none ∨ ∃ j : Int, v = ref j ∧ 0 ≤ j ∧ j < n) →
    ∃ g1', RunOk (mkS c s (dn ++ List.replicate rs.length .none) g0 g1 g2 lk cnt) (rootOps rs i) (mkS c s (dn ++ rs.map shv) g0 g1' g2 lk cnt)
  | [], i, dn, g1, _, _ => ⟨g1, by simpa using .nil _⟩
  | v :: rs, i, dn, g1, hd, hv => by
    rw [List.length_cons, List.replicate_succ]
    have fin : ∀ (op : Op) (x : PyData), x = shv v → step (mkS c s (dn ++ .none :: List.replicate rs.length .none) g0 g1 g2 lk cnt) 0 op = (T1 "ok", mkS c s (dn ++ .none :: List.replicate rs.length .none) g0 x g2 lk cnt) →
        ∃ g1', RunOk (mkS c s (dn ++ .none :: List.replicate rs.length .none) g0 g1 g2 lk cnt) (op :: .root i 1 :: rootOps rs (i + 1)) (mkS c s (dn ++ (v :: rs).map shv) g0 g1' g2 lk cnt) := fun op x ex e => by
      have e2 := st_root (c := c) (s := s) (ro := dn ++ .none :: List.replicate rs.length .none) (g0 := g0) (g1 := x) (g2 := g2) (lk := lk) (n := cnt) (i := i)
      rw [set_mid hd] at e2
      obtain ⟨g1', r⟩ := rootO g0 g2 hg rs (i + 1) (dn ++ [x]) x (by rw [List.length_append, hd]; rfl) fun u hu => hv u (by simp [hu])
      refine ⟨g1', .cons (by rw [e]) (by rw [e]; exact .cons (by rw [e2]) (by rw [e2]; rw [List.append_assoc, List.append_assoc] at r; rw [ex] at r ⊢; exact r))⟩
    rcases hv v (by simp) with rfl | ⟨j, rfl, j0, j1⟩
    · exact fin (.drop 1) .none rfl st_drop1
    · obtain ⟨jn, rfl⟩ : ∃ q : Nat, j = q := ⟨j.toNat, by omega⟩
      obtain ⟨h1, h2⟩ := hg (by omega)
      subst h1
      exact fin (.load 1 0 (jn : Int)) (ref ((jn : Int) + 1)) rfl (st_load1 (by rw [h2, spn_len]; omega) (by rw [h2]; exact spn_at (by omega)))
end K37
set_option Elab.async false
set_option linter.all false
set_option maxRecDepth 100000
set_option maxHeartbeats 4000000
set_option synthInstance.maxHeartbeats 1000000
set_option synthInstance.maxSize 1000000
namespace K37
open PySem PySem.Spec PyProof.Rows L2 Evl Pd Wl


theorem putOps_len : ∀ {os : List (List PyData)} {i : Nat}, (putOps os i).length = 2 * os.length
  | [], _ => rfl
  | o :: os, i => by rw [putOps, List.length_cons, List.length_cons, putOps_len, List.length_cons]; omega
section
variable {P : Program} {w : World} {K : PySem.W.Frag} {mg : Str → Option Value} {base : Heap} {XV : Addr}
def D_filling (ds : List PyData) (h : Lh) (P : Wv) : Prop := ∃ (i k n : Nat) (v : PyData), ds = [.int i, .int k, v] ∧ PV n v ∧ P (opsD (fillOps i k v)) h
theorem cal_filling (S : Src K mg "filling_of" st_filling_of ["number", "k", "value"]) (T : Txt K mg) (C_is_integer : Cal P w K mg base CX0 1 "is_integer" ["value"] (SpW K D_is_integer)) : Cal P w K mg base CX0 2 "filling_of" ["number", "k", "value"] (SpW K D_filling) := by
  have sc := sc_filling_of
  refine S.cal (k := 1) sc (SpW.len fun ds h P z => by obtain ⟨_, _, _, _, rfl, _⟩ := z; rfl) (fun f cdv A outer s H vs Q E hr h => ⟨_, (pss_cons (ps_if (pt_cmpR op_isN (pv 2) pe_non (nomark _)) (pss_one (ps_ret (pe_tup pa_nil))) pss_nil)
  (pss_cons (ps_if (pt_val (pe_cal C_is_integer (hr.mono (by first | decide | omega)) rfl pass0 (pa_cons (pv 2) pa_nil))) (pss_one (ps_ret (pe_tup (pa_cons (pe_tup (pa_cons pe_str (pa_cons (pe_gl rfl T.c_ONE) (pa_cons (pe_gl rfl T.c_SPINE) (pa_cons (pv 0) pa_nil))))) (pa_cons (pe_tup (pa_cons pe_str (pa_cons (pe_gl rfl T.c_ONE) (pa_cons (pv 1) (pa_cons (pv 2) pa_nil))))) pa_nil))))) pss_nil)
  (pss_one (ps_ret (pe_tup (pa_cons (pe_tup (pa_cons pe_str (pa_cons (pe_gl rfl T.c_ONE) (pa_cons (pe_gl rfl T.c_SPINE) (pa_cons (pv 0) pa_nil))))) (pa_cons (pe_tup (pa_cons pe_str (pa_cons (pe_gl rfl T.c_OTHER) (pa_cons (pe_gl rfl T.c_SPINE) (pa_cons (pe_ix (k_ix_tup (K := K) rfl) (pv 2) pe_int (fun _ _ => rfl)) pa_nil))))) (pa_cons (pe_tup (pa_cons pe_str (pa_cons (pe_gl rfl T.c_ONE) (pa_cons (pv 1) (pa_cons (pe_gl rfl T.c_OTHER) pa_nil))))) pa_nil)))))))), h.enter fun ds lh P hD => ?_⟩)
  obtain ⟨i, k, n, v, rfl, hv, hk⟩ := hD
  rcases hv with rfl | ⟨x, rfl, _⟩ | ⟨j, rfl, _⟩
  · simp
    exact hk
  · have rx : Rd0 (.int x) := ⟨0, by decide, .int 0 x⟩
    simp [D_is_integer, isInt, rx]
    exact hk
  · have rx : Rd0 (ref j) := tup_rd (vs := [.str "object", .int j]) (by simp) (fun v hv => by
      simp only [List.mem_cons, List.not_mem_nil, or_false] at hv
      rcases hv with rfl | rfl
      · exact .str _ (by decide +kernel)
      · exact .int j)
    have a1 : ∀ x y : PyData, atI [x, y] 1 = some y := fun _ _ => rfl
    simp [D_is_integer, isInt, rx, a1]
    exact hk
def D_room (ds : List PyData) (h : Lh) (P : Wv) : Prop := ∃ (os : List (List PyData)), ds = [objsD os] ∧ os.length ≤ 50 ∧ SeqAt.shaped (objsD os) = true ∧ clean (objsD os) = true ∧ P (if os.isEmpty then .tuple [.int 0, .int 0] else .tuple [.int (tot os + os.length), .int ((os.length : Int) + 1)]) h
theorem cal_room (S : Src K mg "room_of" st_room_of ["objects"]) (T : Txt K mg) : Cal P w K mg base CX0 1 "room_of" ["objects"] (SpW K D_room) := by
  have sc := sc_room_of
  refine S.cal (k := 0) sc (SpW.len fun ds h P z => by obtain ⟨_, rfl, _⟩ := z; rfl) (fun f cdv A outer s H vs Q E hr h => ⟨_, (pss_cons (ps_if (pt_cmpR (k_eqD (K := K) rfl (hr.units)) (pv 0) (pe_tup pa_nil) (nomark _)) (pss_one (ps_ret (pe_tup (pa_cons pe_int (pa_cons pe_int pa_nil))))) pss_nil)
  (pss_one (ps_ret (pe_tup (pa_cons (pe_op op_add (pe_callB (k_sum (K := K) rfl rfl) (by rfl) T.n_sum (by decide +kernel) (pa_cons (pe_lc (own := [("cells", 1)]) rfl sc.nd (k_pi_tup (K := K) rfl (pv 0)) (blkOk_by (by first | decide +kernel | kernel_rfl)) (fun _ _ _ _ _ => (pg_name (i := 1) sc.nd rfl (by first | exact Or.inl rfl | exact Or.inr rfl))) (fun _ _ _ _ _ => pts_nil) (fun _ _ _ _ _ => (pe_callB (k_len_seq (K := K) rfl) (by rfl) T.n_len PySem.boot_len (pa_cons (pv 1) pa_nil)))) pa_nil)) (pe_callB (k_len_seq (K := K) rfl) (by rfl) T.n_len PySem.boot_len (pa_cons (pv 0) pa_nil))) (pa_cons (pe_op op_add (pe_callB (k_len_seq (K := K) rfl) (by rfl) T.n_len PySem.boot_len (pa_cons (pv 0) pa_nil)) pe_int) pa_nil)))))), h.enter fun ds lh P hD => ?_⟩)
  obtain ⟨os, rfl, hl, hs, hc, hk⟩ := hD
  simp
  have hc' : cleans (os.map PyData.tuple) = true := hc
  refine ⟨hc', hs, ?_⟩
  cases he : os.isEmpty with
  | true => rw [he] at hk; exact wCond.t hk
  | false =>
    rw [he] at hk
    refine wCond.f (lcL_map (emb := PyData.tuple) (fun o => .int ((o.length : Nat) : Int)) trivial (by omega) (fun o ho F hF => by simp [qv]; exact hF) ?_)
    refine ⟨os.map fun o => ((o.length : Nat) : Int), by rw [List.map_map]; rfl, ?_⟩
    simpa [tot] using hk
def D_builder (XV : Addr) (ds : List PyData) (h : Lh) (P : Wv) (X : XB) : Prop := ∃ r o, ds = [r, o] ∧ GR r ∧ GO o ∧ ((∃ (rs : List PyData) (os : List (List PyData)), r = .tuple rs ∧ o = objsD os ∧ Pic rs os ∧ chk r o = true ∧ rs.length ≤ 50 ∧ os.length ≤ 50 ∧ (∀ c ∈ os, c.length ≤ 50) ∧ SeqAt.shaped (objsD os) = true ∧ clean (objsD os) = true ∧ ∀ h', Lx h h' → P (opsD (progOf rs os)) h') ∨ (chk r o = false ∧ ∀ h', Lx h h' → X XV [] h'))
theorem cellOps_len : ∀ {vs : List PyData} {i k : Nat}, (cellOps i vs k).length ≤ 3 * vs.length
  | [], _, _ => Nat.le_refl _
  | v :: vs, i, k => by
    have h1 : (fillOps i k v).length ≤ 3 := by
      unfold fillOps
      split
      · simp
      · simp
      · split <;> simp
    have h2 := @cellOps_len vs i (k + 1)
    rw [cellOps, List.length_append, List.length_cons]
    omega
theorem objOps_len : ∀ {os : List (List PyData)} {i : Nat}, (∀ c ∈ os, c.length ≤ 50) → (objOps os i).length ≤ 150 * os.length
  | [], _, _ => Nat.le_refl _
  | o :: os, i, h => by
    have h1 := @cellOps_len o i 0
    have h2 := @objOps_len os (i + 1) fun c hc => h c (by simp [hc])
    have h3 := h o (by simp)
    rw [objOps, List.length_append, List.length_cons]
    omega
theorem rootOps_len : ∀ {rs : List PyData} {i : Nat}, (rootOps rs i).length = 2 * rs.length
  | [], _ => rfl
  | v :: rs, i => by rw [rootOps, List.length_cons, List.length_cons, rootOps_len, List.length_cons]; omega
theorem numbered_cons (k : Nat) (d : PyData) (ds : List PyData) : Pd.numbered k (d :: ds) = .tuple [.int k, d] :: Pd.numbered (k + 1) ds := rfl
theorem cal_builder (S : Src K mg "builder_of" st_builder_of ["roots", "objects"]) (T : Txt K mg) (C_check_picture : Cal P w K mg base (L2.CX P w) 4 "check_picture" ["roots", "objects"] (SpX K (D_check XV))) (C_filling_of : Cal P w K mg base CX0 2 "filling_of" ["number", "k", "value"] (SpW K D_filling)) :
    Cal P w K mg base (L2.CX P w) 5 "builder_of" ["roots", "objects"] (SpX K (D_builder XV)) := by
  have sc := sc_builder_of
  refine S.calX (k := 4) sc (SpX.len fun ds h P X z => by obtain ⟨_, _, rfl, _⟩ := z; rfl) (fun f cdv A outer s H vs Q E hr h => ⟨_, (pss_cons (ps_expr (pe_cal C_check_picture (hr.mono (by first | decide | omega)) rfl (passes_call (takes_of rfl rfl rfl rfl) (fun _ _ _ _ h => h)) (pa_cons (pv 0) (pa_cons (pv 1) pa_nil))))
  (pss_cons (ps_set (i := 2) sc.nd rfl (by first | exact Or.inl rfl | exact Or.inr rfl) (pe_tup pa_nil))
  (pss_cons (ps_if (pt_cmpR (k_neD (K := K) rfl (hr.units)) (pv 1) (pe_tup pa_nil) (nomark _)) (pss_one (ps_set (i := 2) sc.nd rfl (by first | exact Or.inl rfl | exact Or.inr rfl) (pe_tup (pa_cons (pe_tup (pa_cons pe_str (pa_cons (pe_gl rfl T.c_SPINE) (pa_cons (pe_callB (k_len_seq (K := K) rfl) (by rfl) T.n_len PySem.boot_len (pa_cons (pv 1) pa_nil)) pa_nil)))) pa_nil)))) pss_nil)
  (pss_cons (ps_for (passes_of rfl) rfl (k_pi_enumT (K := K) rfl (by rfl) T.n_enumerate (pa_cons (pv 1) pa_nil)) (k_pg_tup (K := K) (n := 2) rfl rfl (pgs_cons (pg_name (i := 3) sc.nd rfl (by first | exact Or.inl rfl | exact Or.inr rfl)) (pgs_cons (pg_name (i := 4) sc.nd rfl (by first | exact Or.inl rfl | exact Or.inr rfl)) pgs_nil))) (pss_one (ps_set (i := 2) sc.nd rfl (by first | exact Or.inl rfl | exact Or.inr rfl) (pe_op (k_catA (K := K) rfl) (pv 2) (pe_tup (pa_cons (pe_tup (pa_cons pe_str (pa_cons (pe_gl rfl T.c_ONE) (pa_cons (pe_callB (k_len_seq (K := K) rfl) (by rfl) T.n_len PySem.boot_len (pa_cons (pv 4) pa_nil)) pa_nil)))) (pa_cons (pe_tup (pa_cons pe_str (pa_cons (pe_gl rfl T.c_SPINE) (pa_cons (pv 3) (pa_cons (pe_gl rfl T.c_ONE) pa_nil))))) pa_nil)))))))
  (pss_cons (ps_for (passes_of rfl) rfl (k_pi_enumT (K := K) rfl (by rfl) T.n_enumerate (pa_cons (pv 1) pa_nil)) (k_pg_tup (K := K) (n := 2) rfl rfl (pgs_cons (pg_name (i := 3) sc.nd rfl (by first | exact Or.inl rfl | exact Or.inr rfl)) (pgs_cons (pg_name (i := 4) sc.nd rfl (by first | exact Or.inl rfl | exact Or.inr rfl)) pgs_nil))) (pss_one (ps_for (passes_of rfl) rfl (k_pi_enumT (K := K) rfl (by rfl) T.n_enumerate (pa_cons (pv 4) pa_nil)) (k_pg_tup (K := K) (n := 2) rfl rfl (pgs_cons (pg_name (i := 5) sc.nd rfl (by first | exact Or.inl rfl | exact Or.inr rfl)) (pgs_cons (pg_name (i := 6) sc.nd rfl (by first | exact Or.inl rfl | exact Or.inr rfl)) pgs_nil))) (pss_one (ps_set (i := 2) sc.nd rfl (by first | exact Or.inl rfl | exact Or.inr rfl) (pe_op (k_catA (K := K) rfl) (pv 2) (pe_cal C_filling_of (hr.mono (by first | decide | omega)) rfl pass0 (pa_cons (pv 3) (pa_cons (pv 5) (pa_cons (pv 6) pa_nil))))))))))
  (pss_cons (ps_for (passes_of rfl) rfl (k_pi_enumT (K := K) rfl (by rfl) T.n_enumerate (pa_cons (pv 0) pa_nil)) (k_pg_tup (K := K) (n := 2) rfl rfl (pgs_cons (pg_name (i := 7) sc.nd rfl (by first | exact Or.inl rfl | exact Or.inr rfl)) (pgs_cons (pg_name (i := 6) sc.nd rfl (by first | exact Or.inl rfl | exact Or.inr rfl)) pgs_nil))) (pss_cons (ps_set (i := 8) sc.nd rfl (by first | exact Or.inl rfl | exact Or.inr rfl) (pe_ifExp (pt_cmpR op_isN (pv 6) pe_non (nomark _)) (pe_tup (pa_cons pe_str (pa_cons (pe_gl rfl T.c_ONE) pa_nil))) (pe_tup (pa_cons pe_str (pa_cons (pe_gl rfl T.c_ONE) (pa_cons (pe_gl rfl T.c_SPINE) (pa_cons (pe_ix (k_ix_tup (K := K) rfl) (pv 6) pe_int (fun _ _ => rfl)) pa_nil)))))))
  (pss_one (ps_set (i := 2) sc.nd rfl (by first | exact Or.inl rfl | exact Or.inr rfl) (pe_op (k_catA (K := K) rfl) (pv 2) (pe_tup (pa_cons (pv 8) (pa_cons (pe_tup (pa_cons pe_str (pa_cons (pv 7) (pa_cons (pe_gl rfl T.c_ONE) pa_nil)))) pa_nil))))))))
  (pss_one (ps_ret (pe_op (k_catA (K := K) rfl) (pv 2) (pe_callTy (k_tuple_of (K := K) rfl) (by rfl) T.n_tuple (by decide +kernel) (pa_cons (pe_lc (own := [("register", 9)]) rfl sc.nd (pi_range1 (by rfl) T.n_range (pa_cons (pe_gl rfl T.c_REGISTERS) pa_nil)) (blkOk_by (by first | decide +kernel | kernel_rfl)) (fun _ _ _ _ _ => (pg_name (i := 9) sc.nd rfl (by first | exact Or.inl rfl | exact Or.inr rfl))) (fun _ _ _ _ _ => pts_nil) (fun _ _ _ _ _ => (pe_tup (pa_cons pe_str (pa_cons (pv 9) pa_nil))))) pa_nil))))))))))), h.enter fun ds lh P X hD => ?_⟩)
  obtain ⟨r, o, rfl, hr1, ho1, hg⟩ := hD
  refine wSeq_step fun B hB => ?_
  simp
  refine ⟨r, o, rfl, hr1, ho1, fun hc h1 lx1 => ?_, fun hc h1 lx1 => ?_⟩
  case refine_2 =>
    rcases hg with ⟨rs, os, e1, e2, pic, z, _⟩ | ⟨_, hb⟩
    · rw [z] at hc; cases hc
    · exact hb h1 lx1
  rcases hg with ⟨rs, os, rfl, rfl, pic, _, hrl, hol, hcl, hsh, hcc, hg⟩ | ⟨z, _⟩
  case inr => rw [z] at hc; cases hc
  clear hc
  subst hB
  refine wSeq_step fun B hB => ?_
  simp
  subst hB
  refine wSeq_step fun B hB => ?_
  simp
  have hcc' : cleans (os.map PyData.tuple) = true := hcc
  refine ⟨hcc', hsh, ?_⟩
  let hd : List Op := if os.isEmpty then [] else [.put 0 os.length]
  have hdl : hd.length ≤ 1 := by show (if os.isEmpty then [] else [Op.put 0 os.length]).length ≤ 1; split <;> simp
  have main : B { nx := fun x h' => P PyData.none h', rt := P } [some (PyData.tuple rs), some (objsD os), some (opsD hd), none, none, none, none, none, none, none] h1 := by
    subst hB
    refine wSeq_step fun B hB => ?_
    simp
    have T1 := putOps_len (os := os) (i := 0)
    have T2 := objOps_len (os := os) (i := 0) hcl
    have T3 := rootOps_len (rs := rs) (i := 0)
    refine forL_run (fun ds ρ h => ∃ (k : Nat) (rest : List (List PyData)) (pre : List Op) (o3 o4 : Option PyData), ds = Pd.numbered k (rest.map PyData.tuple) ∧ ρ = [some (.tuple rs), some (objsD os), some (opsD pre), o3, o4, none, none, none, none, none] ∧ pre ++ putOps rest k = hd ++ putOps os 0 ∧ h1 = h) ?_ ?_ ⟨0, os, hd, none, none, rfl, rfl, rfl, rfl⟩
    · rintro d ds ρ h ⟨k, rest, pre, o3, o4, ed, rfl, ep, rfl⟩
      cases rest with
      | nil => cases ed
      | cons o rest =>
        rw [List.map_cons, numbered_cons] at ed
        obtain ⟨rfl, rfl⟩ := List.cons.inj ed
        have hl := congrArg List.length ep
        rw [List.length_append, List.length_append] at hl
        refine ⟨trivial, fun F hF => ?_⟩
        simp [qv]
        refine ⟨by omega, ?_⟩
        have := hF [some (.tuple rs), some (objsD os), some (opsD (pre ++ [.put 1 o.length, .store 0 k 1])), some (.int (k : Nat)), some (.tuple o), none, none, none, none, none] h1 ⟨k + 1, rest, pre ++ [.put 1 o.length, .store 0 k 1], _, _, rfl, rfl, by rw [← ep, List.append_assoc]; rfl, rfl⟩
        simpa [opsD] using this
    · rintro ρ h ⟨k, rest, pre, o3, o4, ed, rfl, ep, rfl⟩
      have er : rest = [] := by cases rest with | nil => rfl | cons a b => cases ed
      subst er
      rw [show putOps [] k = [] from rfl, List.append_nil] at ep
      subst ep
      refine ⟨trivial, ?_⟩
      subst hB
      dsimp only
      refine wSeq_step fun B hB => ?_
      simp
      have L1 : (hd ++ putOps os 0).length ≤ 200 := by rw [List.length_append]; omega
      generalize hp1 : hd ++ putOps os 0 = p1 at L1 ⊢
      refine forL_run (fun ds ρ h => ∃ (k : Nat) (rest : List (List PyData)) (pre : List Op) (o3 o4 o5 o6 : Option PyData), ds = Pd.numbered k (rest.map PyData.tuple) ∧ ρ = [some (.tuple rs), some (objsD os), some (opsD pre), o3, o4, o5, o6, none, none, none] ∧ pre ++ objOps rest k = p1 ++ objOps os 0 ∧ (∀ c ∈ rest, c.length ≤ 50 ∧ ∀ v ∈ c, PV os.length v) ∧ Lx h1 h) ?_ ?_ ⟨0, os, p1, o3, o4, none, none, rfl, rfl, rfl, fun c hc => ⟨hcl c hc, (pic.o c hc).2⟩, Lx.refl _⟩
      · rintro d ds ρ h ⟨k, rest, pre, o3, o4, o5, o6, ed, rfl, ep, hrest, lx⟩
        cases rest with
        | nil => cases ed
        | cons o rest =>
          rw [List.map_cons, numbered_cons] at ed
          obtain ⟨rfl, rfl⟩ := List.cons.inj ed
          obtain ⟨ho1, ho2⟩ := hrest o (by simp)
          refine ⟨trivial, fun F hF => ?_⟩
          simp
          refine forL_run (fun ds ρ h' => ∃ (j : Nat) (vs : List PyData) (pre : List Op) (o5 o6 : Option PyData), ds = Pd.numbered j vs ∧ ρ = [some (.tuple rs), some (objsD os), some (opsD pre), some (.int (k : Nat)), some (.tuple o), o5, o6, none, none, none] ∧ pre ++ (cellOps k vs j ++ objOps rest (k + 1)) = p1 ++ objOps os 0 ∧ (∀ v ∈ vs, PV os.length v) ∧ Lx h1 h') ?_ ?_ ⟨0, o, pre, o5, o6, rfl, rfl, ep, ho2, lx⟩
          · rintro d ds ρ h' ⟨j, vs, pre, o5, o6, ed, rfl, ep, hvs, lx⟩
            cases vs with
            | nil => cases ed
            | cons v vs =>
              rw [numbered_cons] at ed
              obtain ⟨rfl, rfl⟩ := List.cons.inj ed
              have hl := congrArg List.length ep
              rw [List.length_append, List.length_append, List.length_append, cellOps, List.length_append] at hl
              refine ⟨trivial, fun F2 hF2 => ?_⟩
              simp
              refine ⟨k, j, os.length, v, rfl, hvs v (by simp), ?_⟩
              refine ⟨(fillOps k j v).map Op.d, rfl, by rw [List.length_map]; omega, ?_⟩
              have := hF2 [some (.tuple rs), some (objsD os), some (opsD (pre ++ fillOps k j v)), some (.int (k : Nat)), some (.tuple o), some (.int (j : Nat)), some v, none, none, none] h' ⟨j + 1, vs, pre ++ fillOps k j v, _, _, rfl, rfl, by rw [← ep, cellOps]; simp only [List.append_assoc], fun u hu => hvs u (by simp [hu]), lx⟩
              simpa [opsD] using this
          · rintro ρ h' ⟨j, vs, pre, o5, o6, ed, rfl, ep, hvs, lx⟩
            have er : vs = [] := by cases vs with | nil => rfl | cons a b => cases ed
            subst er
            exact ⟨trivial, hF _ _ ⟨k + 1, rest, pre, _, _, _, _, rfl, rfl, ep, fun c hc => hrest c (by simp [hc]), lx⟩⟩
      · rintro ρ h ⟨k, rest, pre, o3, o4, o5, o6, ed, rfl, ep, hrest, lx⟩
        have er : rest = [] := by cases rest with | nil => rfl | cons a b => cases ed
        subst er
        rw [show objOps [] k = [] from rfl, List.append_nil] at ep
        subst ep
        refine ⟨trivial, ?_⟩
        subst hB
        dsimp only
        refine wSeq_step fun B hB => ?_
        simp
        have L2 : (p1 ++ objOps os 0).length ≤ 8000 := by rw [List.length_append]; omega
        generalize hp2 : p1 ++ objOps os 0 = p2 at L2 ⊢
        refine forL_run (fun ds ρ h' => ∃ (k : Nat) (rest : List PyData) (pre : List Op) (o6 o7 o8 : Option PyData), ds = Pd.numbered k rest ∧ ρ = [some (.tuple rs), some (objsD os), some (opsD pre), o3, o4, o5, o6, o7, o8, none] ∧ pre ++ rootOps rest k = p2 ++ rootOps rs 0 ∧ (∀ v ∈ rest, v = .none ∨ ∃ i : Int, v = ref i) ∧ h = h') ?_ ?_ ⟨0, rs, p2, o6, none, none, rfl, rfl, rfl, fun v hv => (pic.r v hv).imp id fun ⟨i, e, _⟩ => ⟨i, e⟩, rfl⟩
        · rintro d ds ρ h' ⟨k, rest, pre, o6, o7, o8, ed, rfl, ep, hrest, rfl⟩
          cases rest with
          | nil => cases ed
          | cons v rest =>
            rw [numbered_cons] at ed
            obtain ⟨rfl, rfl⟩ := List.cons.inj ed
            have hl := congrArg List.length ep
            rw [List.length_append, List.length_append, T3] at hl
            refine ⟨trivial, fun F hF => ?_⟩
            have v1 : ∀ n : Int, atI [PyData.str (Str.ofString "object"), PyData.int n] 1 = some (.int n) := fun _ => rfl
            have fin : ∀ (op : Op) (o8 : Option PyData), rootOps (v :: rest) k = op :: .root k 1 :: rootOps rest (k + 1) → F [some (.tuple rs), some (objsD os), some (opsD (pre ++ [op, .root k 1])), o3, o4, o5, some v, some (.int (k : Nat)), o8, none] h := fun op o8 e => hF _ _ ⟨k + 1, rest, pre ++ [op, .root k 1], _, _, _, rfl, rfl, by rw [← ep, e, List.append_assoc]; rfl, fun u hu => hrest u (by simp [hu]), rfl⟩
            rcases hrest v (by simp) with rfl | ⟨i, rfl⟩
            · have := fin (.drop 1) (some (Op.drop 1).d) rfl
              simp
              refine ⟨by omega, ?_⟩
              simpa [opsD] using this
            · have := fin (.load 1 0 i) (some (Op.load 1 0 i).d) rfl
              simp [v1]
              refine ⟨by omega, ?_⟩
              simpa [opsD] using this
        · rintro ρ h' ⟨k, rest, pre, o6, o7, o8, ed, rfl, ep, hrest, rfl⟩
          have er : rest = [] := by cases rest with | nil => rfl | cons a b => cases ed
          subst er
          rw [show rootOps [] k = [] from rfl, List.append_nil] at ep
          subst ep
          refine ⟨trivial, ?_⟩
          subst hB
          have L3 : (p2 ++ rootOps rs 0).length ≤ 9000 := by rw [List.length_append, T3]; omega
          have er3 : rgD 0 3 = [.int 0, .int 1, .int 2] := rfl
          simp [er3]
          rw [List.length_append] at L3
          refine ⟨by omega, ?_⟩
          have := hg h (lx1.trans lx)
          rw [show progOf rs os = p2 ++ rootOps rs 0 ++ [.drop 0, .drop 1, .drop 2] by rw [← hp2, ← hp1]; rfl] at this
          simpa [opsD] using this
  cases he : os.isEmpty with
  | true =>
    have : hd = [] := by show (if os.isEmpty then [] else _) = _; rw [he]; rfl
    rw [this] at main
    exact wCond.t main
  | false =>
    have : hd = [.put 0 os.length] := by show (if os.isEmpty then _ else _) = _; rw [he]; rfl
    rw [this] at main
    exact wCond.f main
end
end K37
set_option Elab.async false
set_option linter.all false
set_option maxRecDepth 100000
set_option maxHeartbeats 4000000
set_option synthInstance.maxHeartbeats 1000000
set_option synthInstance.maxSize 1000000
namespace K37
open PySem PySem.Spec PyProof.Rows L2 Evl Pd Wl
theorem PV.qv {n : Nat} {v : PyData} (h : PV n v) : QV (Kn n) v := by
  rcases h with rfl | ⟨i, rfl, _⟩ | ⟨m, rfl, h0, h1⟩
  · exact .inl rfl
  · exact .inr (.inl ⟨i, rfl⟩)
  · exact .inr (.inr ⟨m, rfl, h0, h1⟩)
theorem Pic.rq {rs : List PyData} {os : List (List PyData)} (p : Pic rs os) : ∀ v ∈ rs, QV (Kn os.length) v := fun v hv => by
  rcases p.r v hv with rfl | ⟨i, rfl, h0, h1⟩
  · exact .inl rfl
  · exact .inr (.inr ⟨i, rfl, h0, h1⟩)
section
variable {P : Program} {w : World} {K : PySem.W.Frag} {mg : Str → Option Value} {base : Heap}
def D_ispic (ds : List PyData) (h : Lh) (P : Wv) : Prop := ∃ (rs : List PyData) (os : List (List PyData)), ds = [.tuple rs, objsD os] ∧ Pic rs os ∧ rs.length ≤ 50 ∧ os.length ≤ 50 ∧ (∀ c ∈ os, c.length ≤ 50) ∧ P (.bool true) h
theorem cal_ispic (S : Src K mg "_law_is_picture" st__law_is_picture ["roots", "objects"]) (T : Txt K mg) (C__law_first : Cal P w K mg base CX0 1 "_law_first" ["values"] (SpW K D_first)) : Cal P w K mg base CX0 2 "_law_is_picture" ["roots", "objects"] (SpW K D_ispic) := by
  have sc := sc__law_is_picture
  refine S.cal (k := 1) sc (SpW.len fun ds h P z => by obtain ⟨_, _, rfl, _⟩ := z; rfl) (fun f cdv A outer s H vs Q E hr h => ⟨_, (pss_cons (ps_set (i := 2) sc.nd rfl (by first | exact Or.inl rfl | exact Or.inr rfl) (pe_lc (own := [("value", 4)]) rfl sc.nd (k_pi_list (K := K) rfl (pe_cal C__law_first (hr.mono (by first | decide | omega)) rfl pass0 (pa_cons (pv 0) pa_nil))) (blkOk_by (by first | decide +kernel | kernel_rfl)) (fun _ _ _ _ _ => (pg_name (i := 4) sc.nd rfl (by first | exact Or.inl rfl | exact Or.inr rfl))) (fun _ _ _ _ _ => pts_nil) (fun _ _ _ _ _ => (pe_ix (k_ix_tup (K := K) rfl) (pv 4) pe_int (fun _ _ => rfl)))))
  (pss_cons (ps_set (i := 3) sc.nd rfl (by first | exact Or.inl rfl | exact Or.inr rfl) pe_int)
  (pss_cons (ps_while PassesOwn.never (pt_cmpR op_lt (pv 3) (pe_callB (k_len_seq (K := K) rfl) (by rfl) T.n_len PySem.boot_len (pa_cons (pv 2) pa_nil)) (nomark _)) (pss_cons (ps_set (i := 2) sc.nd rfl (by first | exact Or.inl rfl | exact Or.inr rfl) (pe_op op_cat (pv 2) (pe_lc (own := [("value", 4)]) rfl sc.nd (k_pi_list (K := K) rfl (pe_cal C__law_first (hr.mono (by first | decide | omega)) rfl pass0 (pa_cons (pe_ix (k_ix_tup (K := K) rfl) (pv 1) (pe_ix (k_ix_list (K := K) rfl) (pv 2) (pv 3) (fun _ _ => rfl)) (fun _ _ => rfl)) pa_nil))) (blkOk_by (by first | decide +kernel | kernel_rfl)) (fun _ _ _ _ _ => (pg_name (i := 4) sc.nd rfl (by first | exact Or.inl rfl | exact Or.inr rfl))) (fun _ _ _ _ _ => (pts_one (pt_cmpR (k_notIn_seq (K := K) rfl) (pe_ix (k_ix_tup (K := K) rfl) (pv 4) pe_int (fun _ _ => rfl)) (pv 2) (by rfl)))) (fun _ _ _ _ _ => (pe_ix (k_ix_tup (K := K) rfl) (pv 4) pe_int (fun _ _ => rfl))))))
  (pss_one (ps_set (i := 3) sc.nd rfl (by first | exact Or.inl rfl | exact Or.inr rfl) (pe_op op_add (pv 3) pe_int)))))
  (pss_one (ps_ret (pe_cmpR (k_eqD (K := K) rfl (hr.units)) (pv 2) (pe_listRg rfl (by rfl) T.n_list (prg_1 (by rfl) T.n_range (pe_callB (k_len_seq (K := K) rfl) (by rfl) T.n_len PySem.boot_len (pa_cons (pv 1) pa_nil)))) (nomark _))))))), h.enter fun ds lh P hD => ?_⟩)
  obtain ⟨rs, os, rfl, pic, hrl, hol, hcl, hk⟩ := hD
  have hpq := pic.rq
  have fkn : ∀ k ∈ scan rs [], Kn os.length k := scan_in (QV.rin hpq) fun _ h => absurd h List.not_mem_nil
  have fnd : (scan rs []).Nodup := scan_nodup List.nodup_nil
  have fl := len_kn fnd fkn
  have v1 : ∀ n : Int, atI [PyData.str (Str.ofString "object"), PyData.int n] 1 = some (.int n) := fun _ => rfl
  refine wSeq_step fun B hB => ?_
  simp
  refine .inr ⟨rs, Kn os.length, rfl, hrl, hpq, ?_⟩
  refine ⟨_, rfl, lcL_map (emb := ref) (fun n => .int n) rfl (by omega) (fun n hn F hF => by simp [v1]; exact hF) ?_⟩
  subst hB
  refine wSeq_step fun B hB => ?_
  simp
  subst hB
  refine wSeq_step fun B hB => ?_
  have olk : ∀ k, Kn os.length k → atI (os.map PyData.tuple) k = some (.tuple (lookL os k)) ∧ (lookL os k).length ≤ 50 ∧ ∀ v ∈ lookL os k, QV (Kn os.length) v := fun k hk => by
    obtain ⟨q, rfl⟩ : ∃ q : Nat, k = q := ⟨k.toNat, by have := hk.1; omega⟩
    have hq : q < os.length := by have := hk.2; omega
    have e1 : lookL os (q : Int) = os[q] := by show os.getD ((q : Int)).toNat [] = _; rw [Int.toNat_natCast, getD_lt hq]
    rw [e1]
    exact ⟨atI_nat (by rw [List.getElem?_map, List.getElem?_eq_getElem hq]; rfl), hcl _ (List.getElem_mem hq), fun v hv => ((pic.o _ (List.getElem_mem hq)).2 v hv).qv⟩
  refine wWhile_run (fun n ρ h' => ∃ (k : Nat) (f : List Int), ρ = [some (.tuple rs), some (objsD os), some (.list (f.map PyData.int)), some (.int (k : Nat)), none] ∧ h' = lh ∧ f.Nodup ∧ (∀ m ∈ f, Kn os.length m) ∧ go (lookL os) (1002 - k) k f = metL rs os ∧ n = 1002 - k ∧ k ≤ f.length) 1002 ⟨0, scan rs [], rfl, rfl, fnd, fkn, rfl, rfl, Nat.zero_le _⟩ ?_
  rintro n ρ h' ⟨k, f, rfl, rfl, fnd2, fkn2, eg, en, hkf⟩ F hF
  have fl2 := len_kn fnd2 fkn2
  simp [lv, qv]
  refine wCond.p (fun ck => ?_) fun ck => ?_
  · have eak : atI (f.map PyData.int) (k : Int) = some (.int f[k]) := atI_nat (by rw [List.getElem?_map, List.getElem?_eq_getElem ck]; rfl)
    have hfk := fkn2 f[k] (List.getElem_mem ck)
    obtain ⟨l1, l2, l3⟩ := olk _ hfk
    simp [lv, eak, l1]
    refine .inr ⟨lookL os f[k], Kn os.length, rfl, by omega, l3, ?_⟩
    have esf := scan_filter f _ (lookL os f[k]) rfl
    have Lkn : ∀ m ∈ scan (lookL os f[k]) [], Kn os.length m := scan_in (QV.rin l3) fun _ h => absurd h List.not_mem_nil
    have Lnd : (scan (lookL os f[k]) []).Nodup := scan_nodup List.nodup_nil
    have Ll := len_kn Lnd Lkn
    have f2kn : ∀ m ∈ scan (lookL os f[k]) f, Kn os.length m := scan_in (QV.rin l3) fkn2
    have f2nd : (scan (lookL os f[k]) f).Nodup := scan_nodup fnd2
    have f2l := len_kn f2nd f2kn
    have step2 : F [some (.tuple rs), some (objsD os), some (.list ((scan (lookL os f[k]) f).map PyData.int)), some (.int ((k : Int) + 1)), none] h' := by
      refine hF (1002 - (k + 1)) _ _ (by omega) ⟨k + 1, scan (lookL os f[k]) f, rfl, rfl, f2nd, f2kn, ?_, rfl, ?_⟩
      · rw [← eg]
        obtain ⟨q, hq⟩ : ∃ q, 1002 - k = q + 1 := ⟨1002 - k - 1, by omega⟩
        rw [show 1002 - (k + 1) = q by omega, hq, go, List.getElem?_eq_getElem ck]
      · rw [esf, List.length_append]; omega
    rw [esf] at step2
    generalize scan (lookL os f[k]) [] = L at Ll step2 ⊢
    refine ⟨_, rfl, ?_⟩
    refine lcL_run (fun ds acc' h'' => ∃ dn rest : List Int, L = dn ++ rest ∧ ds = rest.map ref ∧ acc' = (dn.filter fun n => !decide (n ∈ f)).map PyData.int ∧ h' = h'') ?_ ?_ ⟨[], L, rfl, rfl, rfl, rfl⟩
    · rintro d ds acc' h'' ⟨dn, rest, e, ed, rfl, rfl⟩
      cases rest with
      | nil => cases ed
      | cons x rest =>
        obtain ⟨rfl, rfl⟩ := List.cons.inj ed
        have hdn := congrArg List.length e
        rw [List.length_append] at hdn
        have hfl := List.length_filter_le (fun n => !decide (n ∈ f)) dn
        refine ⟨rfl, by rw [List.length_map]; omega, fun F3 hF3 => ?_⟩
        have := hF3 _ h' ⟨dn ++ [x], rest, by rw [e]; simp, rfl, rfl, rfl⟩
        rw [List.filter_append, List.map_append] at this
        simp [v1, lv]
        refine wCond.p (fun cx => ?_) fun cx => ?_
        · rw [List.filter_cons, if_neg (by simp [cx])] at this
          simpa using this
        · rw [List.filter_cons, if_pos (by simp [cx])] at this
          exact this
    · rintro acc' h'' ⟨dn, rest, e, ed, rfl, rfl⟩
      have er9 : rest = [] := by cases rest with | nil => rfl | cons a b => cases ed
      subst er9
      rw [List.append_nil] at e
      subst e
      have hfl := List.length_filter_le (fun n => !decide (n ∈ f)) L
      refine ⟨rfl, by rw [List.length_map]; omega, ?_⟩
      rw [List.map_append] at step2
      exact step2
  · have hkl : f.length ≤ k := by omega
    have eMf : f = metL rs os := by
      rw [← eg]
      obtain ⟨q, hq⟩ : ∃ q, 1002 - k = q + 1 := ⟨1002 - k - 1, by omega⟩
      rw [hq, go, List.getElem?_eq_none hkl]
    subst eMf
    subst hB
    simp [lv, qv]
    rw [rgD_range, eqv_intsL, pic.m]
    refine ⟨by omega, cl_ints, cl_ints, sh_ints, sh_ints, ?_⟩
    simpa using hk
end
end K37
set_option Elab.async false
set_option linter.all false
set_option maxRecDepth 100000
set_option maxHeartbeats 4000000
set_option synthInstance.maxHeartbeats 1000000
set_option synthInstance.maxSize 1000000
namespace K37
open PySem PySem.Spec PyProof.Rows L2 Evl Pd Wl
def RVal (n : Nat) (v : PyData) : Prop := v = .none ∨ v = .int 0 ∨ v = .int 1 ∨ ∃ m : Int, v = ref m ∧ Kn n m
theorem RVal.qv {n : Nat} {v : PyData} (h : RVal n v) : QV (Kn n) v := by
  rcases h with rfl | rfl | rfl | ⟨m, rfl, hm⟩
  · exact .inl rfl
  · exact .inr (.inl ⟨0, rfl⟩)
  · exact .inr (.inl ⟨1, rfl⟩)
  · exact .inr (.inr ⟨m, rfl, hm⟩)
section
variable {P : Program} {w : World} {K : PySem.W.Frag} {mg : Str → Option Value} {base : Heap}
def D_heap (ds : List PyData) (h : Lh) (P : Wv) : Prop := ∃ (t c : Addr) (R : Nat), ds = [rf t, .int R, .int 0, .int 7] ∧ TapeOk t c h ∧ R ≤ 3 ∧ ∀ (rs : List PyData) (os : List (List PyData)) h', TapeGo t c h h' → Pic rs os → rs.length = R → os.length ≤ 7 → (∀ o ∈ os, o.length ≤ 2) → P (.tuple [.tuple rs, .tuple [.tuple []], objsD os]) h'
theorem cal_heap (S : Src K mg "_law_heap" st__law_heap ["tape", "roots", "registers", "most"]) (T : Txt K mg) (C__law_draw : Cal P w K mg base CX0 1 "_law_draw" ["tape", "many"] (SpW K D_draw)) (C__law_pick : Cal P w K mg base CX0 2 "_law_pick" ["tape", "row"] (SpW K D_pick))
    (C__law_first : Cal P w K mg base CX0 1 "_law_first" ["values"] (SpW K D_first)) (C__law_renamed : Cal P w K mg base CX0 1 "_law_renamed" ["values", "met"] (SpW K D_ren)) : Cal P w K mg base CX0 3 "_law_heap" ["tape", "roots", "registers", "most"] (SpW K D_heap) := by
  have sc := sc__law_heap
  refine S.cal (k := 2) sc (SpW.len fun ds h P z => by obtain ⟨_, _, _, rfl, _⟩ := z; rfl) (fun f cdv A outer s H vs Q E hr h => ⟨_, (pss_cons (ps_set (i := 4) sc.nd rfl (by first | exact Or.inl rfl | exact Or.inr rfl) (pe_cal C__law_draw (hr.mono (by first | decide | omega)) rfl pass0 (pa_cons (pv 0) (pa_cons (pe_op op_add (pv 3) pe_int) pa_nil))))
  (pss_cons (ps_set (i := 5) sc.nd rfl (by first | exact Or.inl rfl | exact Or.inr rfl) (pe_ref (pe_lst pa_nil)))
  (pss_cons (ps_for PassesOwn.never rfl (pi_range1 (by rfl) T.n_range (pa_cons (pv 4) pa_nil)) (pg_name (i := 6) sc.nd rfl (by first | exact Or.inl rfl | exact Or.inr rfl)) (pss_cons (ps_set (i := 7) sc.nd rfl (by first | exact Or.inl rfl | exact Or.inr rfl) (pe_ref (pe_lst pa_nil)))
  (pss_cons (ps_for PassesOwn.never rfl (pi_range1 (by rfl) T.n_range (pa_cons (pe_op op_add pe_int (pe_cal C__law_draw (hr.mono (by first | decide | omega)) rfl pass0 (pa_cons (pv 0) (pa_cons pe_int pa_nil)))) pa_nil)) (pg_name (i := 8) sc.nd rfl (by first | exact Or.inl rfl | exact Or.inr rfl)) (pss_cons (ps_set (i := 9) sc.nd rfl (by first | exact Or.inl rfl | exact Or.inr rfl) (pe_cal C__law_draw (hr.mono (by first | decide | omega)) rfl pass0 (pa_cons (pv 0) (pa_cons pe_int pa_nil))))
  (pss_one (ps_expr (k_append (K := K) rfl (pv 7) (pa_cons (pe_ifExp (pt_cmpR op_gt (pv 9) pe_int (nomark _)) (pe_tup (pa_cons pe_str (pa_cons (pe_cal C__law_draw (hr.mono (by first | decide | omega)) rfl pass0 (pa_cons (pv 0) (pa_cons (pv 4) pa_nil))) pa_nil))) (pe_cal C__law_pick (hr.mono (by first | decide | omega)) rfl pass0 (pa_cons (pv 0) (pa_cons (pe_lst (pa_cons pe_non (pa_cons pe_int (pa_cons pe_int (pa_cons pe_int pa_nil))))) pa_nil)))) pa_nil))))))
  (pss_one (ps_expr (k_append (K := K) rfl (pv 5) (pa_cons (pe_callTy (k_tuple_of (K := K) rfl) (by rfl) T.n_tuple (by decide +kernel) (pa_cons (pv 7) pa_nil)) pa_nil)))))))
  (pss_cons (ps_setLc (i := 10) (own := [("k", 8)]) rfl sc.nd rfl rfl (sw_true rfl rfl rfl (by decide +kernel)) (pi_range1 (by rfl) T.n_range (pa_cons (pe_op op_add (pv 1) (pv 2)) pa_nil)) (blkOk_by (by first | decide +kernel | kernel_rfl)) (fun _ _ _ _ _ => (pg_name (i := 8) sc.nd rfl (by first | exact Or.inl rfl | exact Or.inr rfl))) (fun _ _ _ _ _ => pts_nil) (fun _ _ _ _ _ => (pe_ifExp (PW.pt (pw_and (pt_cmpR op_gt (pv 4) pe_int (nomark _)) (pw_and1 (pt_cmpR op_gt (pe_cal C__law_draw (hr.mono (by first | decide | omega)) rfl pass0 (pa_cons (pv 0) (pa_cons pe_int pa_nil))) pe_int (nomark _))))) (pe_tup (pa_cons pe_str (pa_cons (pe_cal C__law_draw (hr.mono (by first | decide | omega)) rfl pass0 (pa_cons (pv 0) (pa_cons (pv 4) pa_nil))) pa_nil))) pe_non)))
  (pss_cons (ps_set (i := 11) sc.nd rfl (by first | exact Or.inl rfl | exact Or.inr rfl) (pe_lc (own := [("value", 12)]) rfl sc.nd (k_pi_list (K := K) rfl (pe_cal C__law_first (hr.mono (by first | decide | omega)) rfl pass0 (pa_cons (pv 10) pa_nil))) (blkOk_by (by first | decide +kernel | kernel_rfl)) (fun _ _ _ _ _ => (pg_name (i := 12) sc.nd rfl (by first | exact Or.inl rfl | exact Or.inr rfl))) (fun _ _ _ _ _ => pts_nil) (fun _ _ _ _ _ => (pe_ix (k_ix_tup (K := K) rfl) (pv 12) pe_int (fun _ _ => rfl)))))
  (pss_cons (ps_set (i := 8) sc.nd rfl (by first | exact Or.inl rfl | exact Or.inr rfl) pe_int)
  (pss_cons (ps_while PassesOwn.never (pt_cmpR op_lt (pv 8) (pe_callB (k_len_seq (K := K) rfl) (by rfl) T.n_len PySem.boot_len (pa_cons (pv 11) pa_nil)) (nomark _)) (pss_cons (ps_set (i := 11) sc.nd rfl (by first | exact Or.inl rfl | exact Or.inr rfl) (pe_op op_cat (pv 11) (pe_lc (own := [("value", 12)]) rfl sc.nd (k_pi_list (K := K) rfl (pe_cal C__law_first (hr.mono (by first | decide | omega)) rfl pass0 (pa_cons (pe_ix (k_ix_list (K := K) rfl) (pv 5) (pe_ix (k_ix_list (K := K) rfl) (pv 11) (pv 8) (fun _ _ => rfl)) (fun _ _ => rfl)) pa_nil))) (blkOk_by (by first | decide +kernel | kernel_rfl)) (fun _ _ _ _ _ => (pg_name (i := 12) sc.nd rfl (by first | exact Or.inl rfl | exact Or.inr rfl))) (fun _ _ _ _ _ => (pts_one (pt_cmpR (k_notIn_seq (K := K) rfl) (pe_ix (k_ix_tup (K := K) rfl) (pv 12) pe_int (fun _ _ => rfl)) (pv 11) (by rfl)))) (fun _ _ _ _ _ => (pe_ix (k_ix_tup (K := K) rfl) (pv 12) pe_int (fun _ _ => rfl))))))
  (pss_one (ps_set (i := 8) sc.nd rfl (by first | exact Or.inl rfl | exact Or.inr rfl) (pe_op op_add (pv 8) pe_int)))))
  (pss_cons (ps_set (i := 10) sc.nd rfl (by first | exact Or.inl rfl | exact Or.inr rfl) (pe_cal C__law_renamed (hr.mono (by first | decide | omega)) rfl pass0 (pa_cons (pv 10) (pa_cons (pv 11) pa_nil))))
  (pss_one (ps_ret (pe_tup (pa_cons (pe_callTy (k_tuple_of (K := K) rfl) (by rfl) T.n_tuple (by decide +kernel) (pa_cons (pe_slice (k_sl_list (K := K) rfl) (pv 10) po_none (po_some (pv 1))) pa_nil)) (pa_cons (pe_tup (pa_cons (pe_callTy (k_tuple_of (K := K) rfl) (by rfl) T.n_tuple (by decide +kernel) (pa_cons (pe_slice (k_sl_list (K := K) rfl) (pv 10) (po_some (pv 1)) po_none) pa_nil)) pa_nil)) (pa_cons (pe_callTy (k_tuple_of (K := K) rfl) (by rfl) T.n_tuple (by decide +kernel) (pa_cons (pe_lc (own := [("number", 6)]) rfl sc.nd (k_pi_list (K := K) rfl (pv 11)) (blkOk_by (by first | decide +kernel | kernel_rfl)) (fun _ _ _ _ _ => (pg_name (i := 6) sc.nd rfl (by first | exact Or.inl rfl | exact Or.inr rfl))) (fun _ _ _ _ _ => pts_nil) (fun _ _ _ _ _ => (pe_callTy (k_tuple_of (K := K) rfl) (by rfl) T.n_tuple (by decide +kernel) (pa_cons (pe_cal C__law_renamed (hr.mono (by first | decide | omega)) rfl pass0 (pa_cons (pe_ix (k_ix_list (K := K) rfl) (pv 5) (pv 6) (fun _ _ => rfl)) (pa_cons (pv 11) pa_nil))) pa_nil)))) pa_nil)) pa_nil)))))))))))))), h.enter fun ds lh P hD => ?_⟩)
  obtain ⟨t, c, R, rfl, T0, hR, hk⟩ := hD
  refine wSeq_step fun B hB => ?_
  simp
  refine D_draw_run (m := 8) T0 (by decide) (by decide) fun many hm h1 g1 => ?_
  subst hB
  refine wSeq_step fun B hB => ?_
  simp
  intro oq hoq
  subst hB
  refine wSeq_step fun B hB => ?_
  simp
  have n0 : ∀ {h : Lh} {q : Addr}, TapeOk t c h → h q = none → q ≠ t ∧ q ≠ c := fun {h q} T e => by
    obtain ⟨⟨o1, e1⟩, o2, e2⟩ := T.has
    exact ⟨fun z => (by rw [z, e1] at e; cases e), fun z => (by rw [z, e2] at e; cases e)⟩
  have newG : ∀ {h : Lh} {q : Addr} {o : LO}, TapeGo t c lh h → h q = none → TapeGo t c lh (up h q o) := fun {h q o} g e => g.trans (TapeGo.ex g.ok (up_ex e))
  have lnone : ∀ {h : Lh} {q : Addr}, TapeGo t c lh h → h q = none → lh q = none := fun {h q} g e => by
    obtain ⟨q1, q2⟩ := n0 g.ok e
    cases z : lh q with
    | none => rfl
    | some o => rw [g.fr q o q1 q2 z] at e; cases e
  have putG : ∀ {h : Lh} {q : Addr} {o : LO}, TapeGo t c lh h → lh q = none → q ≠ t → q ≠ c → TapeGo t c lh (up h q o) := fun {h q o} g e q1 q2 => ⟨g.ok.put q1 q2, fun a u a1 a2 z => by
    rw [up_ne (fun w => by rw [w, e] at z; cases z)]; exact g.fr a u a1 a2 z⟩
  obtain ⟨o1, o2⟩ := n0 g1.ok hoq
  have lo := lnone g1 hoq
  have er : rgD 0 ((many : Nat) : Int) = rgD ((0 : Nat) : Int) ((many : Nat) : Int) := rfl
  rw [er]
  refine ⟨by omega, ?_⟩
  refine forL_run (fun ds ρ h => ∃ (objs : List (List PyData)) (o6 o7 o8 o9 : Option PyData), ds = rgD (objs.length : Int) (many : Int) ∧ objs.length ≤ many ∧ ρ = [some (rf t), some (.int (R : Nat)), some (.int 0), some (.int 7), some (.int (many : Nat)), some (rf oq), o6, o7, o8, o9, none, none, none] ∧
      (∀ o ∈ objs, o ≠ [] ∧ o.length ≤ 2 ∧ ∀ v ∈ o, RVal many v) ∧ TapeGo t c lh h ∧ h oq = some (.lst (objs.map PyData.tuple))) ?_ ?_ ⟨[], none, none, none, none, rfl, Nat.zero_le _, rfl, fun o ho => (by cases ho), newG g1 hoq, up_same⟩
  · rintro d ds ρ h ⟨objs, o6, o7, o8, o9, ed, hol, rfl, hob, gh, ho⟩
    rcases Nat.lt_or_ge objs.length many with c1 | c1
    · rw [rgD_cons (by omega : ((objs.length : Nat) : Int) < many)] at ed
      obtain ⟨rfl, rfl⟩ := List.cons.inj ed
      refine ⟨trivial, fun F hF => ?_⟩
      dsimp only [wName]
      refine wSeq_step fun B1 hB1 => ?_
      simp
      intro cq hcq
      have coq : cq ≠ oq := fun z => by rw [z, ho] at hcq; cases hcq
      obtain ⟨c2, c3⟩ := n0 gh.ok hcq
      have lc := lnone gh hcq
      have g2 := newG (o := .lst []) gh hcq
      have ho2 : up h cq (.lst []) oq = some (.lst (objs.map PyData.tuple)) := by rw [up_ne coq.symm]; exact ho
      have hc2 : up h cq (.lst []) cq = some (.lst []) := up_same
      generalize up h cq (.lst []) = h2 at g2 ho2 hc2 ⊢
      subst hB1
      refine wSeq_step fun B1 hB1 => ?_
      simp
      refine D_draw_run (m := 2) g2.ok (by decide) (by decide) fun more hmo h3 g3 => ?_
      have g3' := g2.trans g3
      have ho3 := g3.fr oq _ o1 o2 ho2
      have hc3 := g3.fr cq _ c2 c3 hc2
      simp
      have er2 : rgD 0 (1 + ((more : Nat) : Int)) = rgD ((0 : Nat) : Int) ((1 + more : Nat) : Int) := by rw [show (1 + ((more : Nat) : Int)) = ((1 + more : Nat) : Int) by omega]; rfl
      rw [er2]
      refine ⟨by omega, by omega, ?_⟩
      refine forL_run (fun ds ρ h => ∃ (cs : List PyData) (o8 o9 : Option PyData), ds = rgD (cs.length : Int) ((1 + more : Nat) : Int) ∧ cs.length ≤ 1 + more ∧ ρ = [some (rf t), some (.int (R : Nat)), some (.int 0), some (.int 7), some (.int (many : Nat)), some (rf oq), some (.int (objs.length : Nat)), some (rf cq), o8, o9, none, none, none] ∧
          (∀ v ∈ cs, RVal many v) ∧ TapeGo t c lh h ∧ h oq = some (.lst (objs.map PyData.tuple)) ∧ h cq = some (.lst cs)) ?_ ?_ ⟨[], o8, o9, rfl, Nat.zero_le _, rfl, fun v hv => (by cases hv), g3', ho3, hc3⟩
      · rintro d ds ρ h ⟨cs, o8, o9, ed, hcl, rfl, hcv, g4, ho4, hc4⟩
        rcases Nat.lt_or_ge cs.length (1 + more) with c4 | c4
        · rw [rgD_cons (by omega)] at ed
          obtain ⟨rfl, rfl⟩ := List.cons.inj ed
          refine ⟨trivial, fun F2 hF2 => ?_⟩
          dsimp only [wName]
          have put : ∀ (x : PyData) (h5 : Lh) (o9 : Option PyData), RVal many x → TapeGo t c h h5 → F2 [some (rf t), some (.int (R : Nat)), some (.int 0), some (.int 7), some (.int (many : Nat)), some (rf oq), some (.int (objs.length : Nat)), some (rf cq), some (.int (cs.length : Nat)), o9, none, none, none] (up h5 cq (.lst (cs ++ [x]))) := fun x h5 o9 hx g5 => by
            have g6 := g4.trans g5
            refine hF2 _ _ ⟨cs ++ [x], _, _, by rw [List.length_append]; rfl, by rw [List.length_append]; exact c4, rfl, fun v hv => ?_, putG g6 lc c2 c3, by rw [up_ne coq.symm]; exact g5.fr oq _ o1 o2 ho4, up_same⟩
            rcases List.mem_append.mp hv with hv | hv
            · exact hcv v hv
            · cases List.mem_singleton.mp hv; exact hx
          refine wSeq_step fun B2 hB2 => ?_
          simp
          refine D_draw_run (m := 5) g4.ok (by decide) (by decide) fun kind hkd h5 g5 => ?_
          have hc5 := g5.fr cq _ c2 c3 hc4
          subst hB2
          simp [hc5]
          refine wCond.p (fun ck => ?_) fun ck => ?_
          · refine D_draw_run (m := many) g5.ok (by omega) (by omega) fun m hm6 h6 g6 => ?_
            exact ⟨cs, g6.fr cq _ c2 c3 hc5, by omega, put (ref (m : Int)) h6 _ (.inr (.inr (.inr ⟨(m : Int), rfl, by omega, by omega⟩))) (g5.trans g6)⟩
          · refine D_pick_run g5.ok (by simp) (by simp) fun x hx h6 g6 => ?_
            refine ⟨cs, g6.fr cq _ c2 c3 hc5, by omega, put x h6 _ ?_ (g5.trans g6)⟩
            simp only [List.mem_cons, List.not_mem_nil, or_false] at hx
            rcases hx with rfl | rfl | rfl | rfl
            · exact .inl rfl
            · exact .inr (.inl rfl)
            · exact .inr (.inl rfl)
            · exact .inr (.inr (.inl rfl))
        · rw [rgD_nil (by omega)] at ed; cases ed
      · rintro ρ h ⟨cs, o8, o9, ed, hcl, rfl, hcv, g4, ho4, hc4⟩
        have hcl2 : cs.length = 1 + more := by
          rcases Nat.lt_or_ge cs.length (1 + more) with c | c
          · rw [rgD_cons (by omega)] at ed; cases ed
          · omega
        refine ⟨trivial, ?_⟩
        subst hB1
        dsimp only
        simp [hc4, ho4, lv, qv]
        refine ⟨by omega, ?_⟩
        have := hF _ (up h oq (.lst ((objs ++ [cs]).map PyData.tuple))) ⟨objs ++ [cs], some (.int (objs.length : Nat)), some (rf cq), o8, o9, by rw [List.length_append]; rfl, by rw [List.length_append]; exact c1, rfl, fun o ho => ?_, putG g4 lo o1 o2, up_same⟩
        · rw [List.map_append] at this
          exact this
        · rcases List.mem_append.mp ho with ho | ho
          · exact hob o ho
          · cases List.mem_singleton.mp ho
            exact ⟨fun z => by rw [z] at hcl2; simp at hcl2; omega, by omega, hcv⟩
    · rw [rgD_nil (by omega)] at ed; cases ed
  · rintro ρ h ⟨objs, o6, o7, o8, o9, ed, hol, rfl, hob, gh, ho⟩
    have hol2 : objs.length = many := by
      rcases Nat.lt_or_ge objs.length many with c | c
      · rw [rgD_cons (by omega : ((objs.length : Nat) : Int) < many)] at ed; cases ed
      · omega
    refine ⟨trivial, ?_⟩
    subst hB
    dsimp only
    refine wSeq_step fun B hB => ?_
    simp
    have er3 : rgD 0 ((R : Nat) : Int) = rgD ((0 : Nat) : Int) ((R : Nat) : Int) := rfl
    rw [er3]
    refine ⟨by omega, ?_⟩
    refine lcL_run (fun ds acc h => ∃ ps : List PyData, ds = rgD (ps.length : Int) (R : Int) ∧ ps.length ≤ R ∧ acc = ps ∧ (∀ v ∈ ps, v = .none ∨ ∃ m : Int, v = ref m ∧ Kn many m) ∧ TapeGo t c lh h ∧ h oq = some (.lst (objs.map PyData.tuple))) ?_ ?_ ⟨[], rfl, Nat.zero_le _, rfl, fun v hv => (by cases hv), gh, ho⟩
    · rintro d ds acc h ⟨ps, ed, hpl, rfl, hpv, g4, ho4⟩
      rcases Nat.lt_or_ge acc.length R with c4 | c4
      · rw [rgD_cons (by omega)] at ed
        obtain ⟨rfl, rfl⟩ := List.cons.inj ed
        refine ⟨trivial, by omega, fun F hF => ?_⟩
        have put : ∀ (x : PyData) (h5 : Lh), (x = .none ∨ ∃ m : Int, x = ref m ∧ Kn many m) → TapeGo t c h h5 → F (acc ++ [x]) h5 := fun x h5 hx g5 => hF _ _ ⟨acc ++ [x], by rw [List.length_append]; rfl, by rw [List.length_append]; exact c4, rfl, fun v hv => by
          rcases List.mem_append.mp hv with hv | hv
          · exact hpv v hv
          · cases List.mem_singleton.mp hv; exact hx, g4.trans g5, g5.fr oq _ o1 o2 ho4⟩
        simp
        refine wCond.p (fun cm => ?_) fun cm => ?_
        · refine D_draw_run (m := 4) g4.ok (by decide) (by decide) fun kd hkd h5 g5 => ?_
          refine ⟨_, rfl, wCond.p (fun ck => ?_) fun ck => ?_⟩
          · refine D_draw_run (m := many) g5.ok (by omega) (by omega) fun m hm6 h6 g6 => ?_
            exact put (ref (m : Int)) h6 (.inr ⟨(m : Int), rfl, by omega, by omega⟩) (g5.trans g6)
          · exact put .none h5 (.inl rfl) g5
        · exact put .none h (.inl rfl) (TapeGo.refl g4.ok)
      · rw [rgD_nil (by omega)] at ed; cases ed
    · rintro acc h ⟨ps, ed, hpl, rfl, hpv, g4, ho4⟩
      have hpl2 : acc.length = R := by
        rcases Nat.lt_or_ge acc.length R with c | c
        · rw [rgD_cons (by omega)] at ed; cases ed
        · omega
      refine ⟨trivial, ?_⟩
      subst hB
      refine wSeq_step fun B hB => ?_
      simp
      have hpq : ∀ v ∈ acc, QV (Kn many) v := fun v hv => by
        rcases hpv v hv with rfl | ⟨m, rfl, hm⟩
        · exact .inl rfl
        · exact .inr (.inr ⟨m, rfl, hm⟩)
      refine .inl ⟨acc, Kn many, rfl, by omega, hpq, ?_⟩
      have fkn : ∀ k ∈ scan acc [], Kn many k := scan_in (QV.rin hpq) fun _ h => absurd h List.not_mem_nil
      have fnd : (scan acc []).Nodup := scan_nodup List.nodup_nil
      have fl := len_kn fnd fkn
      have v1 : ∀ n : Int, atI [PyData.str (Str.ofString "object"), PyData.int n] 1 = some (.int n) := fun _ => rfl
      refine ⟨_, rfl, lcL_map (emb := ref) (fun n => .int n) rfl (by omega) (fun n hn F hF => by simp [v1]; exact hF) ?_⟩
      subst hB
      refine wSeq_step fun B hB => ?_
      simp
      subst hB
      refine wSeq_step fun B hB => ?_
      let look : Int → List PyData := lookL objs
      obtain ⟨M, eM⟩ : ∃ M, go look 1002 0 (scan acc []) = M := ⟨_, rfl⟩
      have lkr : ∀ k, Kn many k → ∀ v ∈ look k, RVal many v := fun k hk v hv => by
        have hk2 : k.toNat < objs.length := by have h1 := hk.1; have h2 := hk.2; omega
        have e1 : look k = objs[k.toNat] := getD_lt hk2
        rw [e1] at hv
        exact (hob _ (List.getElem_mem hk2)).2.2 v hv
      have lkq : ∀ k, Kn many k → ∀ v ∈ look k, QV (Kn many) v := fun k hk v hv => by
        have hk2 : k.toNat < objs.length := by have h1 := hk.1; have h2 := hk.2; omega
        have e1 : look k = objs[k.toNat] := getD_lt hk2
        rw [e1] at hv
        exact ((hob _ (List.getElem_mem hk2)).2.2 v hv).qv
      obtain ⟨m1, m2, m3, m4, m5⟩ := ren_met (n := many) (by omega) hpq lkq eM
      have olk : ∀ k, Kn many k → atI (objs.map PyData.tuple) k = some (.tuple (look k)) ∧ (look k).length ≤ 2 ∧ look k ≠ [] := fun k hk => by
        obtain ⟨q, rfl⟩ : ∃ q : Nat, k = q := ⟨k.toNat, by have := hk.1; omega⟩
        have hq : q < objs.length := by have := hk.2; omega
        have e1 : look (q : Int) = objs[q] := by show objs.getD ((q : Int)).toNat [] = _; rw [Int.toNat_natCast, getD_lt hq]
        rw [e1]
        exact ⟨atI_nat (by rw [List.getElem?_map, List.getElem?_eq_getElem hq]; rfl), (hob _ (List.getElem_mem hq)).2.1, (hob _ (List.getElem_mem hq)).1⟩
      refine wWhile_run (fun n ρ h' => ∃ (k : Nat) (f : List Int), ρ = [some (rf t), some (.int (R : Nat)), some (.int 0), some (.int 7), some (.int (many : Nat)), some (rf oq), o6, o7, some (.int (k : Nat)), o9, some (.list acc), some (.list (f.map PyData.int)), none] ∧ h' = h ∧ f.Nodup ∧ (∀ m ∈ f, Kn many m) ∧ go look (1002 - k) k f = M ∧ n = 1002 - k ∧ k ≤ f.length) 1002 ⟨0, scan acc [], rfl, rfl, fnd, fkn, eM, rfl, Nat.zero_le _⟩ ?_
      rintro n ρ h' ⟨k, f, rfl, rfl, fnd2, fkn2, eg, en, hkf⟩ F hF
      have fl2 := len_kn fnd2 fkn2
      simp [lv, qv]
      refine wCond.p (fun ck => ?_) fun ck => ?_
      · have eak : atI (f.map PyData.int) (k : Int) = some (.int f[k]) := atI_nat (by rw [List.getElem?_map, List.getElem?_eq_getElem ck]; rfl)
        have hfk := fkn2 f[k] (List.getElem_mem ck)
        obtain ⟨l1, l2, l3⟩ := olk _ hfk
        simp [ho4, lv, eak, l1]
        refine .inr ⟨look f[k], Kn many, rfl, by omega, lkq _ hfk, ?_⟩
        have esf := scan_filter f _ (look f[k]) rfl
        have Lkn : ∀ m ∈ scan (look f[k]) [], Kn many m := scan_in (QV.rin (lkq _ hfk)) fun _ h => absurd h List.not_mem_nil
        have Lnd : (scan (look f[k]) []).Nodup := scan_nodup List.nodup_nil
        have Ll := len_kn Lnd Lkn
        have f2kn : ∀ m ∈ scan (look f[k]) f, Kn many m := scan_in (QV.rin (lkq _ hfk)) fkn2
        have f2nd : (scan (look f[k]) f).Nodup := scan_nodup fnd2
        have f2l := len_kn f2nd f2kn
        have step2 : F [some (rf t), some (.int (R : Nat)), some (.int 0), some (.int 7), some (.int (many : Nat)), some (rf oq), o6, o7, some (.int ((k : Int) + 1)), o9, some (.list acc), some (.list ((scan (look f[k]) f).map PyData.int)), none] h' := by
          refine hF (1002 - (k + 1)) _ _ (by omega) ⟨k + 1, scan (look f[k]) f, rfl, rfl, f2nd, f2kn, ?_, rfl, ?_⟩
          · rw [← eg]
            obtain ⟨q, hq⟩ : ∃ q, 1002 - k = q + 1 := ⟨1002 - k - 1, by omega⟩
            rw [show 1002 - (k + 1) = q by omega, hq, go, List.getElem?_eq_getElem ck]
          · rw [esf, List.length_append]; omega
        rw [esf] at step2
        generalize scan (look f[k]) [] = L at Ll step2 ⊢
        refine ⟨_, rfl, ?_⟩
        refine lcL_run (fun ds acc' h'' => ∃ dn rest : List Int, L = dn ++ rest ∧ ds = rest.map ref ∧ acc' = (dn.filter fun n => !decide (n ∈ f)).map PyData.int ∧ h' = h'') ?_ ?_ ⟨[], L, rfl, rfl, rfl, rfl⟩
        · rintro d ds acc' h'' ⟨dn, rest, e, ed, rfl, rfl⟩
          cases rest with
          | nil => cases ed
          | cons x rest =>
            obtain ⟨rfl, rfl⟩ := List.cons.inj ed
            have hdn := congrArg List.length e
            rw [List.length_append] at hdn
            have hfl := List.length_filter_le (fun n => !decide (n ∈ f)) dn
            refine ⟨rfl, by rw [List.length_map]; omega, fun F3 hF3 => ?_⟩
            have := hF3 _ h' ⟨dn ++ [x], rest, by rw [e]; simp, rfl, rfl, rfl⟩
            rw [List.filter_append, List.map_append] at this
            simp [v1, lv]
            refine wCond.p (fun cx => ?_) fun cx => ?_
            · rw [List.filter_cons, if_neg (by simp [cx])] at this
              simpa using this
            · rw [List.filter_cons, if_pos (by simp [cx])] at this
              exact this
        · rintro acc' h'' ⟨dn, rest, e, ed, rfl, rfl⟩
          have er9 : rest = [] := by cases rest with | nil => rfl | cons a b => cases ed
          subst er9
          rw [List.append_nil] at e
          subst e
          have hfl := List.length_filter_le (fun n => !decide (n ∈ f)) L
          refine ⟨rfl, by rw [List.length_map]; omega, ?_⟩
          rw [List.map_append] at step2
          exact step2
      · have hkl : f.length ≤ k := by omega
        have eMf : f = M := by
          rw [← eg]
          obtain ⟨q, hq⟩ : ∃ q, 1002 - k = q + 1 := ⟨1002 - k - 1, by omega⟩
          rw [hq, go, List.getElem?_eq_none hkl]
        subst eMf
        subst hB
        refine wSeq_step fun B hB => ?_
        simp
        have fl3 := len_kn m2 m3
        refine .inl ⟨acc, f, rfl, by omega, by omega, m4, ?_⟩
        subst hB
        simp [lv, qv]
        refine lcL_map (emb := PyData.int) (fun n => .tuple ((look n).map (renV f))) trivial (by omega) (fun n hn F hF => ?_) ?_
        · obtain ⟨l1, l2, l3⟩ := olk n (m3 n hn)
          simp [ho4, lv, l1]
          refine .inr ⟨look n, f, rfl, by omega, by omega, m5 n hn, ?_⟩
          simpa [qv] using hF
        · have eR : (acc.map (renV f)).length = R := by rw [List.length_map]; exact hpl2
          rw [List.take_of_length_le (by omega), List.drop_of_length_le (by omega)]
          have ixb : ∀ m ∈ f, 0 ≤ ixI f m ∧ ixI f m < f.length := fun m hm => by
            have := List.idxOf_lt_length_iff.mpr hm
            unfold ixI
            omega
          have := hk (acc.map (renV f)) (f.map fun k => (look k).map (renV f)) h' g4 ⟨fun v hv => ?_, fun c hc => ?_, by rw [m1, List.length_map]⟩ eR (by rw [List.length_map]; omega) (fun o ho => by
            obtain ⟨k, hk, rfl⟩ := List.mem_map.mp ho
            rw [List.length_map]; exact (olk k (m3 k hk)).2.1)
          · rw [show objsD (f.map fun k => (look k).map (renV f)) = .tuple (f.map fun n => .tuple ((look n).map (renV f))) by unfold objsD; rw [List.map_map]; rfl] at this
            simpa using this
          · obtain ⟨u, hu, rfl⟩ := List.mem_map.mp hv
            rcases hpv u hu with rfl | ⟨m, rfl, _⟩
            · exact .inl rfl
            · rcases m4 _ hu with z | ⟨_, z⟩ | ⟨m', z, hm⟩
              · cases z
              · cases z
              · cases z
                obtain ⟨b1, b2⟩ := ixb m hm
                exact .inr ⟨ixI f m, rfl, b1, by rw [List.length_map]; exact b2⟩
          · obtain ⟨k, hk, rfl⟩ := List.mem_map.mp hc
            obtain ⟨l1, l2, l3⟩ := olk k (m3 k hk)
            refine ⟨fun z => l3 (List.map_eq_nil_iff.mp z), fun v hv => ?_⟩
            obtain ⟨u, hu, rfl⟩ := List.mem_map.mp hv
            rw [List.length_map]
            rcases lkr k (m3 k hk) u hu with rfl | rfl | rfl | ⟨m, rfl, _⟩
            · exact .inl rfl
            · exact .inr (.inl ⟨0, rfl, by decide⟩)
            · exact .inr (.inl ⟨1, rfl, by decide⟩)
            · rcases m5 k hk _ hu with z | ⟨_, z⟩ | ⟨m', z, hm⟩
              · cases z
              · cases z
              · cases z
                obtain ⟨b1, b2⟩ := ixb m hm
                exact .inr (.inr ⟨ixI f m, rfl, b1, b2⟩)
end
end K37
set_option Elab.async false
set_option linter.all false
set_option maxRecDepth 100000
set_option maxHeartbeats 4000000
set_option synthInstance.maxHeartbeats 1000000
set_option synthInstance.maxSize 1000000
namespace K37
open PySem PySem.Spec PyProof.Rows L2 Evl Pd Wl
theorem go_same {n : Nat} {f g : Int → List PyData} (h1 : ∀ k, Kn n k → f k = g k) (h2 : ∀ k, Kn n k → Rin (Kn n) (f k)) : ∀ (m j : Nat) (l : List Int), (∀ k ∈ l, Kn n k) → go f m j l = go g m j l
  | 0, _, _, _ => rfl
  | m + 1, j, l, hl => by
    unfold go
    cases e : l[j]? with
    | none => rfl
    | some k =>
      have hk := hl k (List.mem_of_getElem? e)
      simp only
      rw [← h1 k hk]
      exact go_same h1 h2 m (j + 1) _ (scan_in (h2 k hk) hl)
structure Bd (r o : PyData) : Prop where
  gr : GR r
  go : GO o
  ch : chk r o = false
theorem PV.sv {n : Nat} {v : PyData} (h : PV n v) : SV v := by
  rcases h with rfl | ⟨i, rfl, _⟩ | ⟨m, rfl, _⟩
  · exact .non
  · exact .int i
  · exact .pi _ m (by decide +kernel)
section
variable {rs : List PyData} {os : List (List PyData)}
theorem Pic.sv (p : Pic rs os) : ∀ v ∈ rs, SV v := fun v hv => by
  rcases p.r v hv with rfl | ⟨i, rfl, _⟩
  · exact .non
  · exact .pi _ i (by decide +kernel)
theorem Pic.gr (p : Pic rs os) (h : rs.length ≤ 5) : GR (.tuple rs) := .tup rs (by omega) p.sv
theorem Pic.gc (p : Pic rs os) (hc : ∀ c ∈ os, c.length ≤ 5) : ∀ c ∈ os.map PyData.tuple, GC c := fun c h => by
  obtain ⟨o, ho, rfl⟩ := List.mem_map.mp h
  exact .tup o (by have := hc o ho; omega) fun v hv => ((p.o o ho).2 v hv).sv
theorem Pic.go (p : Pic rs os) (h : os.length ≤ 10) (hc : ∀ c ∈ os, c.length ≤ 5) : GO (objsD os) := .tup _ (by rw [List.length_map]; omega) (p.gc hc)
theorem chk_tt {rs' os' : List PyData} : chk (.tuple rs') (.tuple os') = (os'.all (cellOk os'.length) && rs'.all (shown os'.length false) && decide (metL rs' (os'.map tupsOf) = rangeI os'.length)) := rfl
theorem chk_root {rs' os' : List PyData} {v : PyData} (hv : v ∈ rs') (h : shown os'.length false v = false) : chk (.tuple rs') (.tuple os') = false := by
  rw [chk_tt]
  have : rs'.all (shown os'.length false) = false := by rw [List.all_eq_false]; exact ⟨v, hv, by rw [h]; decide⟩
  rw [this, Bool.and_false]; rfl
theorem chk_obj {rs' os' : List PyData} {v : PyData} (hv : v ∈ os') (h : cellOk os'.length v = false) : chk (.tuple rs') (.tuple os') = false := by
  rw [chk_tt]
  have : os'.all (cellOk os'.length) = false := by rw [List.all_eq_false]; exact ⟨v, hv, by rw [h]; decide⟩
  rw [this, Bool.false_and]; rfl
theorem chk_met {rs' os' : List PyData} (h : metL rs' (os'.map tupsOf) ≠ rangeI os'.length) : chk (.tuple rs') (.tuple os') = false := by
  rw [chk_tt, decide_eq_false h, Bool.and_false]
theorem map_tups : (os.map PyData.tuple).map tupsOf = os := by
  rw [List.map_map]
  conv => rhs; rw [← List.map_id os]
  exact List.map_congr_left fun c _ => rfl
theorem Pic.chk (p : Pic rs os) : chk (.tuple rs) (objsD os) = true := by
  show ((os.map PyData.tuple).all (cellOk (os.map PyData.tuple).length) && rs.all (shown (os.map PyData.tuple).length false) && decide (metL rs ((os.map PyData.tuple).map tupsOf) = rangeI (os.map PyData.tuple).length)) = true
  rw [map_tups, List.length_map, p.m, decide_eq_true rfl, Bool.and_true, Bool.and_eq_true, List.all_eq_true, List.all_eq_true]
  refine ⟨fun c hc => ?_, fun v hv => ?_⟩
  · obtain ⟨o, ho, rfl⟩ := List.mem_map.mp hc
    obtain ⟨h1, h2⟩ := p.o o ho
    show (!o.isEmpty && o.all (shown os.length true)) = true
    rw [Bool.and_eq_true, List.all_eq_true]
    exact ⟨by simpa using h1, fun v hv => (h2 v hv).shown⟩
  · rcases p.r v hv with rfl | ⟨i, rfl, h0, h1⟩
    · rfl
    · show (decide (("object" : Str) = "object") && (decide (0 ≤ i) && decide (i < (os.length : Int)))) = true
      rw [decide_eq_true rfl, decide_eq_true h0, decide_eq_true h1]; rfl
/-- one root more -/
theorem bd_root (p : Pic rs os) (h : rs.length ≤ 5) (ho : os.length ≤ 10) (hc : ∀ c ∈ os, c.length ≤ 5) {v : PyData} (sv : SV v) (hs : shown os.length false v = false) : Bd (.tuple (rs ++ [v])) (objsD os) :=
  ⟨.tup (rs ++ [v]) (by rw [List.length_append]; show rs.length + 1 ≤ 50; omega) fun u hu => (List.mem_append.mp hu).elim (p.sv u) fun z => by cases List.mem_singleton.mp z; exact sv, p.go ho hc, chk_root (v := v) (by simp) (by rw [List.length_map]; exact hs)⟩
/-- another last object -/
theorem bd_last (p : Pic rs os) (h : rs.length ≤ 5) (ho : os.length ≤ 10) (hc : ∀ c ∈ os, c.length ≤ 5) {os' : List PyData} (hs : ∀ c ∈ os', c ∈ os.map PyData.tuple) {x : PyData} (hl : os'.length + 1 ≤ 11) (gx : GC x) (hx : cellOk (os'.length + 1) x = false) : Bd (.tuple rs) (.tuple (os' ++ [x])) :=
  ⟨p.gr h, .tup (os' ++ [x]) (by rw [List.length_append]; show os'.length + 1 ≤ 50; omega) fun c hc' => (List.mem_append.mp hc').elim (fun z => p.gc hc c (hs c z)) fun z => by cases List.mem_singleton.mp z; exact gx, chk_obj (os' := os' ++ [x]) (v := x) (by simp) (by rw [List.length_append]; exact hx)⟩
theorem bd_more (p : Pic rs os) (h : rs.length ≤ 5) (ho : os.length ≤ 10) (hc : ∀ c ∈ os, c.length ≤ 5) : Bd (.tuple rs) (.tuple (os.map PyData.tuple ++ [.tuple [.none]])) :=
  ⟨p.gr h, .tup (os.map PyData.tuple ++ [.tuple [.none]]) (by rw [List.length_append, List.length_map]; show os.length + 1 ≤ 50; omega) fun c hc' => (List.mem_append.mp hc').elim (fun z => p.gc hc c z) fun z => by
    cases List.mem_singleton.mp z
    exact .tup _ (by simp) fun v hv => by cases List.mem_singleton.mp hv; exact .non, chk_met (rs' := _) (os' := _) (by
    rw [List.map_append, map_tups, List.length_append, List.length_map]
    have e : metL rs (os ++ [tupsOf (.tuple [.none])]) = metL rs os := by
      refine go_same (n := os.length) (fun k hk => ?_) (fun k hk => ?_) 1002 0 _ (scan_in (QV.rin p.rq) fun _ h => absurd h List.not_mem_nil)
      · have hq : k.toNat < os.length := by have := hk.1; have := hk.2; omega
        show (os ++ [_]).getD k.toNat [] = os.getD k.toNat []
        rw [getD_lt (by rw [List.length_append]; omega), getD_lt hq, List.getElem_append_left hq]
      · have hq : k.toNat < os.length := by have := hk.1; have := hk.2; omega
        have e1 : lookL (os ++ [tupsOf (.tuple [.none])]) k = os[k.toNat] := by
          show (os ++ [_]).getD k.toNat [] = _
          rw [getD_lt (by rw [List.length_append]; omega), List.getElem_append_left hq]
        rw [e1]
        exact QV.rin fun v hv => ((p.o _ (List.getElem_mem hq)).2 v hv).qv
    show metL rs (os ++ [tupsOf (.tuple [.none])]) ≠ _
    rw [e, p.m]
    intro z
    have := congrArg List.length z
    rw [rangeI_len, rangeI_len] at this
    simp at this)⟩
theorem bd_nones (p : Pic rs os) (h : rs.length ≤ 5) (ho : os.length ≤ 10) (hc : ∀ c ∈ os, c.length ≤ 5) (hn : 0 < os.length) : Bd (.tuple (rs.map fun _ => .none)) (objsD os) :=
  ⟨.tup (rs.map fun _ => .none) (by rw [List.length_map]; omega) fun v hv => by
    obtain ⟨_, _, rfl⟩ := List.mem_map.mp hv
    exact .non, p.go ho hc, chk_met (rs' := _) (os' := _) (by
    have e : scan (rs.map fun _ => PyData.none) [] = [] := scan_nones fun v hv => by
      obtain ⟨_, _, rfl⟩ := List.mem_map.mp hv
      rfl
    rw [map_tups, List.length_map]
    unfold metL
    rw [e]
    intro z
    have := congrArg List.length z
    rw [rangeI_len] at this
    have g0 : (go (lookL os) 1002 0 []) = [] := rfl
    rw [g0] at this
    simp at this
    omega)⟩
theorem bd_swap (p : Pic rs os) (h : rs.length ≤ 5) (ho : os.length ≤ 10) (hc : ∀ c ∈ os, c.length ≤ 5) (hn : 1 < os.length) : Bd (.tuple [ref 1, ref 0]) (objsD os) :=
  ⟨.tup _ (by simp) fun v hv => by
    simp only [List.mem_cons, List.not_mem_nil, or_false] at hv
    rcases hv with rfl | rfl
    · exact .pi _ 1 (by decide +kernel)
    · exact .pi _ 0 (by decide +kernel), p.go ho hc, chk_met (rs' := _) (os' := _) (by
    have e : scan [ref 1, ref 0] [] = [1, 0] := rfl
    rw [map_tups, List.length_map]
    unfold metL
    rw [e]
    obtain ⟨t, et⟩ := @go_pre (lookL os) 1002 0 [1, 0]
    rw [et]
    obtain ⟨m, em⟩ : ∃ m, os.length = m + 1 := ⟨os.length - 1, by omega⟩
    rw [em]
    unfold rangeI
    rw [List.range_succ_eq_map]
    intro z
    cases z)⟩
end
end K37
set_option Elab.async false
set_option linter.all false
set_option maxRecDepth 100000
set_option maxHeartbeats 4000000
set_option synthInstance.maxHeartbeats 1000000
set_option synthInstance.maxSize 1000000
namespace K37
open PySem PySem.Spec PyProof.Rows L2 Evl Pd Wl
section
variable {P : Program} {w : World} {K : PySem.W.Frag} {mg : Str → Option Value} {base : Heap}
def D_pickG (ds : List PyData) (h : Lh) (P : Wv) : Prop := ∃ (t c : Addr) (v : PyData) (es : List PyData), ds = [rf t, v] ∧ TapeOk t c h ∧ 0 < es.length ∧ es.length ≤ 1000 ∧ (v = .list es ∨ ∃ a, v = rf a ∧ a ≠ t ∧ a ≠ c ∧ h a = some (.lst es)) ∧ ∀ (x : PyData) h', x ∈ es → TapeGo t c h h' → P x h'
theorem cal_pickG (S : Src K mg "_law_pick" st__law_pick ["tape", "row"]) (T : Txt K mg) (C__law_draw : Cal P w K mg base CX0 1 "_law_draw" ["tape", "many"] (SpW K D_draw)) : Cal P w K mg base CX0 2 "_law_pick" ["tape", "row"] (SpW K D_pickG) := by
  have sc := sc__law_pick
  refine S.cal (k := 1) sc (SpW.len fun ds h P z => by obtain ⟨_, _, _, _, rfl, _⟩ := z; rfl) (fun f cdv A outer s H vs Q E hr h => ⟨_, (pss_one (ps_ret (pe_ix (k_ix_list (K := K) rfl) (pv 1) (pe_cal C__law_draw (hr.mono (by first | decide | omega)) rfl pass0 (pa_cons (pv 0) (pa_cons (pe_callB (k_len_seq (K := K) rfl) (by rfl) T.n_len PySem.boot_len (pa_cons (pv 1) pa_nil)) pa_nil))) (fun _ _ => rfl)))), h.enter fun ds lh P hD => ?_⟩)
  obtain ⟨t, c, v, es, rfl, ht, h0, hn, hv, hk⟩ := hD
  simp
  have hl : Wl.qv lh v = some es ∧ ∀ h', TapeGo t c lh h' → Wl.lv h' v = some es := by
    rcases hv with rfl | ⟨a, rfl, n1, n2, e⟩
    · exact ⟨rfl, fun h' _ => rfl⟩
    · exact ⟨by simp [e], fun h' g => by simp [g.fr a _ n1 n2 e]⟩
  refine ⟨es, hl.1, D_draw_run ht (by omega) hn fun r hr h' g => ?_⟩
  simp [hl.2 h' g]
  exact ⟨es[r], atI_nat (j := r) (by simp [hr]), hk _ h' (List.getElem_mem hr) g⟩
def D_nopic (ds : List PyData) (h : Lh) (P : Wv) : Prop := ∃ (t c : Addr) (rs : List PyData) (os : List (List PyData)), ds = [rf t, .tuple rs, objsD os] ∧ TapeOk t c h ∧ Pic rs os ∧ rs.length ≤ 5 ∧ os.length ≤ 10 ∧ (∀ c ∈ os, c.length ≤ 5) ∧ ∀ (r o : PyData) h', TapeGo t c h h' → Bd r o → P (.tuple [r, o]) h'
def okB (l : List PyData) : Prop := ∀ e ∈ l, ∃ r o, e = .tuple [r, o] ∧ Bd r o
theorem genB {n : Nat} {C : List PyData → Prop} {l : List PyData} (ok : okB l ∧ l.length = n) (k : ∀ l, okB l → l.length = n → C l) : C l := k l ok.1 ok.2
theorem okB.nil : okB [] := fun e h => by cases h
theorem okB.cons {r o : PyData} {l : List PyData} (h : Bd r o) (k : okB l) : okB (.tuple [r, o] :: l) := fun e he => (List.mem_cons.mp he).elim (fun z => ⟨r, o, z, h⟩) (k e)
theorem okB.app {l m : List PyData} (h : okB l) (k : okB m) : okB (l ++ m) := fun e he => (List.mem_append.mp he).elim (h e) (k e)
theorem sh_many {n : Nat} : shown n false (ref n) = false := by
  show (decide (("object" : Str) = "object") && (decide ((0 : Int) ≤ (n : Int)) && decide ((n : Int) < (n : Int)))) = false
  rw [decide_eq_false (p := (n : Int) < (n : Int)) (by omega), Bool.and_false, Bool.and_false]
theorem sh_many' {n : Nat} : shown n true (ref n) = false := by
  show (decide (("object" : Str) = "object") && (decide ((0 : Int) ≤ (n : Int)) && decide ((n : Int) < (n : Int)))) = false
  rw [decide_eq_false (p := (n : Int) < (n : Int)) (by omega), Bool.and_false, Bool.and_false]
theorem atI_last {l : List PyData} {x : PyData} : atI (l ++ [x]) (-1) = some x := by
  simp [atI, ixN]
  rw [if_pos (by omega), show (-1 + ((l.length : Int) + 1)).toNat = l.length by omega]
  simp
theorem cell_bad {n : Nat} {l : List PyData} {v : PyData} (h : shown n true v = false) : cellOk n (.tuple (l ++ [v])) = false := by
  show (!(l ++ [v]).isEmpty && (l ++ [v]).all (shown n true)) = false
  rw [List.all_append]
  show (_ && (_ && (shown n true v && true))) = false
  rw [h]
  simp
theorem cal_nopic (S : Src K mg "_law_no_picture" st__law_no_picture ["tape", "roots", "objects"]) (T : Txt K mg) (C__law_pick : Cal P w K mg base CX0 2 "_law_pick" ["tape", "row"] (SpW K D_pickG)) : Cal P w K mg base CX0 3 "_law_no_picture" ["tape", "roots", "objects"] (SpW K D_nopic) := by
  have sc := sc__law_no_picture
  refine S.cal (k := 2) sc (SpW.len fun ds h P z => by obtain ⟨_, _, _, _, rfl, _⟩ := z; rfl) (fun f cdv A outer s H vs Q E hr h => ⟨_, (pss_cons (ps_set (i := 3) sc.nd rfl (by first | exact Or.inl rfl | exact Or.inr rfl) (pe_callB (k_len_seq (K := K) rfl) (by rfl) T.n_len PySem.boot_len (pa_cons (pv 2) pa_nil)))
  (pss_cons (ps_set (i := 4) sc.nd rfl (by first | exact Or.inl rfl | exact Or.inr rfl) (pe_lst (pa_cons (pe_tup (pa_cons pe_non (pa_cons (pv 2) pa_nil))) (pa_cons (pe_tup (pa_cons (pv 1) (pa_cons pe_non pa_nil))) (pa_cons (pe_tup (pa_cons (pe_callTy (k_list_of (K := K) rfl) (by rfl) T.n_list (by decide +kernel) (pa_cons (pv 1) pa_nil)) (pa_cons (pv 2) pa_nil))) (pa_cons (pe_tup (pa_cons (pv 1) (pa_cons (pe_callTy (k_list_of (K := K) rfl) (by rfl) T.n_list (by decide +kernel) (pa_cons (pv 2) pa_nil)) pa_nil))) (pa_cons (pe_tup (pa_cons (pe_op (k_catA (K := K) rfl) (pv 1) (pe_tup (pa_cons pe_int pa_nil))) (pa_cons (pv 2) pa_nil))) (pa_cons (pe_tup (pa_cons (pe_op (k_catA (K := K) rfl) (pv 1) (pe_tup (pa_cons (pe_tup (pa_cons pe_str (pa_cons (pv 3) pa_nil))) pa_nil))) (pa_cons (pv 2) pa_nil))) pa_nil))))))))
  (pss_cons (ps_set (i := 4) sc.nd rfl (by first | exact Or.inl rfl | exact Or.inr rfl) (pe_op op_cat (pv 4) (pe_lst (pa_cons (pe_tup (pa_cons (pe_op (k_catA (K := K) rfl) (pv 1) (pe_tup (pa_cons (pe_tup (pa_cons pe_str (pa_cons pe_int pa_nil))) pa_nil))) (pa_cons (pv 2) pa_nil))) (pa_cons (pe_tup (pa_cons (pv 1) (pa_cons (pe_op (k_catA (K := K) rfl) (pv 2) (pe_tup (pa_cons (pe_tup (pa_cons pe_non pa_nil)) pa_nil))) pa_nil))) (pa_cons (pe_tup (pa_cons (pe_op (k_catA (K := K) rfl) (pv 1) (pe_tup (pa_cons (pe_tup pa_nil) pa_nil))) (pa_cons (pv 2) pa_nil))) (pa_cons (pe_tup (pa_cons (pe_op (k_catA (K := K) rfl) (pv 1) (pe_tup (pa_cons pe_bl pa_nil))) (pa_cons (pv 2) pa_nil))) pa_nil)))))))
  (pss_cons (ps_set (i := 4) sc.nd rfl (by first | exact Or.inl rfl | exact Or.inr rfl) (pe_op op_cat (pv 4) (pe_lst (pa_cons (pe_tup (pa_cons (pe_op (k_catA (K := K) rfl) (pv 1) (pe_tup (pa_cons (pe_tup (pa_cons pe_str (pa_cons (pe_un un_neg pe_int) pa_nil))) pa_nil))) (pa_cons (pv 2) pa_nil))) (pa_cons (pe_tup (pa_cons (pe_op (k_catA (K := K) rfl) (pv 1) (pe_tup (pa_cons (pe_tup (pa_cons pe_str (pa_cons pe_bl pa_nil))) pa_nil))) (pa_cons (pv 2) pa_nil))) (pa_cons (pe_tup (pa_cons (pv 1) (pa_cons (pe_op (k_catA (K := K) rfl) (pv 2) (pe_tup (pa_cons (pe_tup pa_nil) pa_nil))) pa_nil))) (pa_cons (pe_tup (pa_cons (pe_tup (pa_cons pe_str (pa_cons pe_int pa_nil))) (pa_cons (pv 2) pa_nil))) pa_nil)))))))
  (pss_cons (ps_if (pt_cmpR op_gt (pv 3) pe_int (nomark _)) (pss_cons (ps_set (i := 4) sc.nd rfl (by first | exact Or.inl rfl | exact Or.inr rfl) (pe_op op_cat (pv 4) (pe_lst (pa_cons (pe_tup (pa_cons (pv 1) (pa_cons (pe_op (k_catA (K := K) rfl) (pe_slice (k_sl_tupA (K := K) rfl) (pv 2) po_none (po_some (pe_un un_neg pe_int))) (pe_tup (pa_cons (pe_op (k_catA (K := K) rfl) (pe_ix (k_ix_tup (K := K) rfl) (pv 2) (pe_un un_neg pe_int) (fun _ _ => rfl)) (pe_tup (pa_cons (pe_op op_pow pe_int pe_int) pa_nil))) pa_nil))) pa_nil))) (pa_cons (pe_tup (pa_cons (pv 1) (pa_cons (pe_op (k_catA (K := K) rfl) (pe_slice (k_sl_tupA (K := K) rfl) (pv 2) po_none (po_some (pe_un un_neg pe_int))) (pe_tup (pa_cons (pe_op (k_catA (K := K) rfl) (pe_ix (k_ix_tup (K := K) rfl) (pv 2) (pe_un un_neg pe_int) (fun _ _ => rfl)) (pe_tup (pa_cons pe_str pa_nil))) pa_nil))) pa_nil))) pa_nil)))))
  (pss_cons (ps_set (i := 4) sc.nd rfl (by first | exact Or.inl rfl | exact Or.inr rfl) (pe_op op_cat (pv 4) (pe_lst (pa_cons (pe_tup (pa_cons (pv 1) (pa_cons (pe_op (k_catA (K := K) rfl) (pe_slice (k_sl_tupA (K := K) rfl) (pv 2) po_none (po_some (pe_un un_neg pe_int))) (pe_tup (pa_cons (pe_callTy (k_list_of (K := K) rfl) (by rfl) T.n_list (by decide +kernel) (pa_cons (pe_ix (k_ix_tup (K := K) rfl) (pv 2) (pe_un un_neg pe_int) (fun _ _ => rfl)) pa_nil)) pa_nil))) pa_nil))) (pa_cons (pe_tup (pa_cons (pv 1) (pa_cons (pe_op (k_catA (K := K) rfl) (pe_slice (k_sl_tupA (K := K) rfl) (pv 2) po_none (po_some (pe_un un_neg pe_int))) (pe_tup (pa_cons (pe_op (k_catA (K := K) rfl) (pe_ix (k_ix_tup (K := K) rfl) (pv 2) (pe_un un_neg pe_int) (fun _ _ => rfl)) (pe_tup (pa_cons (pe_tup (pa_cons pe_str (pa_cons (pv 3) pa_nil))) pa_nil))) pa_nil))) pa_nil))) pa_nil)))))
  (pss_one (ps_set (i := 4) sc.nd rfl (by first | exact Or.inl rfl | exact Or.inr rfl) (pe_ref (pe_op op_cat (pv 4) (pe_lst (pa_cons (pe_tup (pa_cons (pe_callTy (k_tuple_of (K := K) rfl) (by rfl) T.n_tuple (by decide +kernel) (pa_cons (pe_lc (own := [("value", 5)]) rfl sc.nd (k_pi_tup (K := K) rfl (pv 1)) (blkOk_by (by first | decide +kernel | kernel_rfl)) (fun _ _ _ _ _ => (pg_name (i := 5) sc.nd rfl (by first | exact Or.inl rfl | exact Or.inr rfl))) (fun _ _ _ _ _ => pts_nil) (fun _ _ _ _ _ => pe_non)) pa_nil)) (pa_cons (pv 2) pa_nil))) (pa_cons (pe_tup (pa_cons (pv 1) (pa_cons (pe_op (k_catA (K := K) rfl) (pe_slice (k_sl_tupA (K := K) rfl) (pv 2) po_none (po_some (pe_un un_neg pe_int))) (pe_tup (pa_cons (pe_op (k_catA (K := K) rfl) (pe_ix (k_ix_tup (K := K) rfl) (pv 2) (pe_un un_neg pe_int) (fun _ _ => rfl)) (pe_tup (pa_cons pe_bl pa_nil))) pa_nil))) pa_nil))) pa_nil))))))))) pss_nil)
  (pss_cons (ps_if (pt_cmpR op_gt (pv 3) pe_int (nomark _)) (pss_one (ps_expr (k_append (K := K) rfl (pv 4) (pa_cons (pe_tup (pa_cons (pe_tup (pa_cons (pe_tup (pa_cons pe_str (pa_cons pe_int pa_nil))) (pa_cons (pe_tup (pa_cons pe_str (pa_cons pe_int pa_nil))) pa_nil))) (pa_cons (pv 2) pa_nil))) pa_nil)))) pss_nil)
  (pss_one (ps_ret (pe_cal C__law_pick (hr.mono (by first | decide | omega)) rfl pass0 (pa_cons (pv 0) (pa_cons (pv 4) pa_nil))))))))))), h.enter fun ds lh P hD => ?_⟩)
  obtain ⟨t, c, rs, os, rfl, ht, pic, hr5, ho, hc, hk⟩ := hD
  have q1 : os.length ≤ 99999 := by omega
  have q2 : rs.length ≤ 99999 := by omega
  refine wSeq_step fun B hB => ?_
  simp
  subst hB
  refine wSeq_step fun B hB => ?_
  simp [q1, q2]
  refine genB (n := 6) (C := fun l => B { nx := fun x h' => P PyData.none h', rt := P } [some (rf t), some (PyData.tuple rs), some (objsD os), some (PyData.int ↑os.length), some (.list l), none] lh) ?_ fun l1 b1 n1 => ?_
  · exact ⟨.cons ⟨.non, pic.go ho hc, rfl⟩ (.cons ⟨pic.gr hr5, .non, rfl⟩ (.cons ⟨.lst _, pic.go ho hc, rfl⟩ (.cons ⟨pic.gr hr5, .lst _, rfl⟩ (.cons (bd_root pic hr5 ho hc (.int 7) rfl) (.cons (bd_root pic hr5 ho hc (.pi _ _ (by decide +kernel)) sh_many) .nil))))), rfl⟩
  subst hB
  refine wSeq_step fun B hB => ?_
  simp [n1, q1, q2]
  refine genB (n := 10) (C := fun l => B { nx := fun x h' => P PyData.none h', rt := P } [some (rf t), some (PyData.tuple rs), some (objsD os), some (PyData.int ↑os.length), some (.list l), none] lh) ?_ fun l2 b2 n2 => ?_
  · exact ⟨b1.app (.cons (bd_root pic hr5 ho hc (.pi _ _ (by decide +kernel)) rfl) (.cons (bd_more pic hr5 ho hc) (.cons (bd_root pic hr5 ho hc .nil rfl) (.cons (bd_root pic hr5 ho hc (.bl true) rfl) .nil)))), by rw [List.length_append, n1]; rfl⟩
  subst hB
  refine wSeq_step fun B hB => ?_
  simp [n2, q1, q2]
  refine genB (n := 14) (C := fun l => B { nx := fun x h' => P PyData.none h', rt := P } [some (rf t), some (PyData.tuple rs), some (objsD os), some (PyData.int ↑os.length), some (.list l), none] lh) ?_ fun l3 b3 n3 => ?_
  · exact ⟨b2.app (.cons (bd_root pic hr5 ho hc (.pi _ _ (by decide +kernel)) rfl) (.cons (bd_root pic hr5 ho hc (.pb _ true (by decide +kernel)) rfl) (.cons (bd_last pic hr5 ho hc (fun c z => z) (by rw [List.length_map]; omega) (.tup [] (by simp) fun v hv => by cases hv) rfl) (.cons ⟨.tup [.str (Str.ofString "object"), .int 0] (by simp) fun v hv => by
      simp only [List.mem_cons, List.not_mem_nil, or_false] at hv
      rcases hv with rfl | rfl
      · exact .str _ (by decide +kernel)
      · exact .int 0, pic.go ho hc, chk_root (v := .int 0) (by simp) rfl⟩ .nil)))), by rw [List.length_append, n2]; rfl⟩
  subst hB
  refine wSeq_step fun B hB => ?_
  refine wIfS_step fun X Y eX eY => ?_
  simp
  refine wCond.p (fun c0 => ?_) fun c0 => ?_
  · subst eX
    obtain ⟨os0, lst, eo⟩ : ∃ a b, os = a ++ [b] := ⟨os.dropLast, os.getLast (by intro z; rw [z] at c0; exact absurd c0 (Nat.lt_irrefl 0)), (List.dropLast_concat_getLast _).symm⟩
    refine wSeq_step fun B2 hB2 => ?_
    simp [n3, q1, q2]
    have eL : atI (os.map PyData.tuple) (-1) = some (.tuple lst) := by
      rw [eo, List.map_append]
      exact atI_last
    have hin : lst ∈ os := by rw [eo]; simp
    obtain ⟨lne, lpv⟩ := pic.o lst hin
    have l5 := hc lst hin
    simp [eL]
    have q3 : os.length ≤ 100000 := by omega
    have q4 : lst.length ≤ 99999 := by omega
    simp [q3, q4]
    have gl : ∀ {n : Nat} {v : PyData}, n = os.length → SV v → shown n true v = false → Bd (.tuple rs) (.tuple ((os.map PyData.tuple).dropLast ++ [.tuple (lst ++ [v])])) := fun en sv hv => bd_last pic hr5 ho hc (fun c z => List.dropLast_subset _ z) (by rw [List.length_dropLast, List.length_map]; omega) (.tup _ (by rw [List.length_append]; show lst.length + 1 ≤ 50; omega) fun u hu => (List.mem_append.mp hu).elim (fun z => (lpv u z).sv) fun z => by cases List.mem_singleton.mp z; exact sv) (by
      rw [show (os.map PyData.tuple).dropLast.length + 1 = os.length by rw [List.length_dropLast, List.length_map]; omega, ← en]
      exact cell_bad hv)
    refine genB (n := 16) (C := fun l => B2 { nx := B { nx := fun x h' => P PyData.none h', rt := P }, rt := P } [some (rf t), some (PyData.tuple rs), some (objsD os), some (PyData.int ↑os.length), some (.list l), none] lh) ?_ fun l4 b4 n4 => ?_
    · exact ⟨b3.app (.cons (gl (n := os.length) rfl (.int _) rfl) (.cons (gl (n := os.length) rfl (.str _ (by decide +kernel)) rfl) .nil)), by rw [List.length_append, n3]; rfl⟩
    subst hB2
    refine wSeq_step fun B2 hB2 => ?_
    simp [n4, q1, q2, eL, q3, q4]
    refine genB (n := 18) (C := fun l => B2 { nx := B { nx := fun x h' => P PyData.none h', rt := P }, rt := P } [some (rf t), some (PyData.tuple rs), some (objsD os), some (PyData.int ↑os.length), some (.list l), none] lh) ?_ fun l5 b5 n5 => ?_
    · exact ⟨b4.app (.cons (bd_last pic hr5 ho hc (fun c z => List.dropLast_subset _ z) (by rw [List.length_dropLast, List.length_map]; omega) (.lst _) rfl) (.cons (gl (n := os.length) rfl (.pi _ _ (by decide +kernel)) sh_many') .nil)), by rw [List.length_append, n4]; rfl⟩
    subst hB2
    simp [n5, q1, q2, eL, q3, q4]
    refine lcL_id (fun _ => .none) trivial (by omega) (fun a ha F hF => by simp; exact hF) ?_
    intro p hp _
    have b6 : okB (l5 ++ [PyData.tuple [PyData.tuple (rs.map fun _ => PyData.none), objsD os], PyData.tuple [PyData.tuple rs, PyData.tuple ((List.map PyData.tuple os).dropLast ++ [PyData.tuple (lst ++ [PyData.bool false])])]]) := b5.app (.cons (bd_nones pic hr5 ho hc c0) (.cons (gl (n := os.length) rfl (.bl _) rfl) .nil))
    have n6 : (l5 ++ [PyData.tuple [PyData.tuple (rs.map fun _ => PyData.none), objsD os], PyData.tuple [PyData.tuple rs, PyData.tuple ((List.map PyData.tuple os).dropLast ++ [PyData.tuple (lst ++ [PyData.bool false])])]]).length = 20 := by rw [List.length_append, n5]; rfl
    generalize l5 ++ [PyData.tuple [PyData.tuple (rs.map fun _ => PyData.none), objsD os], PyData.tuple [PyData.tuple rs, PyData.tuple ((List.map PyData.tuple os).dropLast ++ [PyData.tuple (lst ++ [PyData.bool false])])]] = l6 at b6 n6 ⊢
    have pt : p ≠ t := fun z => by
      subst z
      obtain ⟨_, ⟨_, e, _⟩, _⟩ := ht
      rw [hp] at e; cases e
    have pc : p ≠ c := fun z => by
      subst z
      obtain ⟨_, _, _, e, _⟩ := ht
      rw [hp] at e; cases e
    have go2 : ∀ l, TapeGo t c lh (up lh p (.lst l)) := fun l => .ex ht fun a o e => by rw [up_ne (fun z => by subst z; rw [hp] at e; cases e)]; exact e
    subst hB
    simp [n6]
    refine wCond.p (fun c1 => ?_) fun c1 => ?_
    · have b7 := b6.app (.cons (bd_swap pic hr5 ho hc (by omega)) .nil)
      exact ⟨t, c, _, _, rfl, (go2 _).ok, by rw [List.length_append]; show 0 < l6.length + 1; omega, by rw [List.length_append]; show l6.length + 1 ≤ 1000; omega, .inr ⟨p, rfl, pt, pc, up_same⟩, fun x h' hx g => by
        obtain ⟨r, o, rfl, b⟩ := b7 x hx
        exact hk r o h' ((go2 _).trans g) b⟩
    · exact ⟨t, c, _, l6, rfl, (go2 _).ok, by omega, by omega, .inr ⟨p, rfl, pt, pc, up_same⟩, fun x h' hx g => by
        obtain ⟨r, o, rfl, b⟩ := b6 x hx
        exact hk r o h' ((go2 _).trans g) b⟩
  · subst eY
    simp
    subst hB
    have e0 : ¬ 1 < (os.length : Int) := by omega
    simp [e0]
    exact ⟨t, c, _, l3, rfl, ht, by omega, by omega, .inl rfl, fun x h' hx g => by
      obtain ⟨r, o, rfl, b⟩ := b3 x hx
      exact hk r o h' g b⟩
end
end K37
set_option Elab.async false
set_option linter.all false
set_option maxRecDepth 100000
set_option maxHeartbeats 4000000
set_option synthInstance.maxHeartbeats 1000000
set_option synthInstance.maxSize 1000000
namespace Wl
open PySem PySem.Spec PyProof.Rows L2 Evl Pd
theorem rs_seqB {K : PySem.W.Frag} {XX : XP} {ta tb : TS} {a b : WS} (B : RS K XX tb b) [A : RS K XX ta a] : RS K XX (tSeq ta tb) (wSeq a b) := inferInstance
theorem rs_for {K : PySem.W.Frag} {XX : XP} {ti : TI} {tg : TG} {tb : TS} {s : WI} {g : WG} {b : WS} (B : RS K XX tb b) [I : RI K XX ti s] [G : RG K XX tg g] : RS K XX (tFor ti tg tb) (wFor s g b) := inferInstance
end Wl
namespace K37
open PySem PySem.Spec PyProof.Rows L2 Evl Pd Wl
section
variable {P : Program} {w : World} {K : PySem.W.Frag} {mg : Str → Option Value} {base : Heap} {XV : Addr}
def D_refused (ds : List PyData) (h : Lh) (P : Wv) : Prop := ∃ (t c : Addr) (rs : List PyData) (os : List (List PyData)), ds = [rf t, .tuple rs, objsD os] ∧ TapeOk t c h ∧ Pic rs os ∧ rs.length ≤ 5 ∧ os.length ≤ 10 ∧ (∀ c ∈ os, c.length ≤ 5) ∧ ∀ h', TapeGo t c h h' → P (.bool true) h'
theorem cal_refused (S : Src K mg "_law_refused" st__law_refused ["tape", "roots", "objects"]) (T : Txt K mg) (XX_BadValue : XCls K mg "BadValue" XV) (C__law_no_picture : Cal P w K mg base CX0 3 "_law_no_picture" ["tape", "roots", "objects"] (SpW K D_nopic)) (C_builder_of : Cal P w K mg base (L2.CX P w) 5 "builder_of" ["roots", "objects"] (SpX K (D_builder XV))) (C_check_picture : Cal P w K mg base (L2.CX P w) 4 "check_picture" ["roots", "objects"] (SpX K (D_check XV))) : Cal P w K mg base CX0 6 "_law_refused" ["tape", "roots", "objects"] (SpW K D_refused) := by
  have sc := sc__law_refused
  refine S.cal (k := 5) sc (SpW.len fun ds h P z => by obtain ⟨_, _, _, _, rfl, _⟩ := z; rfl) (fun f cdv A outer s H vs Q E hr h => ⟨_, (pss_cons (ps_par (i := 3) (j := 4) rfl sc.nd rfl rfl (by decide) rfl rfl (pa_cons (pe_cal C__law_no_picture (hr.mono (by first | decide | omega)) rfl pass0 (pa_cons (pv 0) (pa_cons (pv 1) (pa_cons (pv 2) pa_nil)))) (pa_cons pe_int pa_nil)) (by rfl))
  (pss_cons (ps_for PassesOwn.never rfl (pi_range1 (by rfl) T.n_range (pa_cons pe_int pa_nil)) (pg_name (i := 5) sc.nd rfl (by first | exact Or.inl rfl | exact Or.inr rfl)) (pss_one (k_tryO (K := K) (Wout := fun _ _ _ _ => False) rfl rfl rfl ⟨rfl, by decide, .inl XX_BadValue.g⟩ takes0 (fun W pn xe tk po => (pss_one (ps_if (pt_cmpR op_eq (pv 5) pe_int (nomark _)) (pss_one (ps_expr (pe_calS C_builder_of (hr.mono (by first | decide | omega)) rfl tk (pa_cons (pe_ix (k_ix_tup (K := K) rfl) (pv 3) pe_int (fun _ _ => rfl)) (pa_cons (pe_ix (k_ix_tup (K := K) rfl) (pv 3) pe_int (fun _ _ => rfl)) pa_nil))))) (pss_one (ps_expr (pe_calS C_check_picture (hr.mono (by first | decide | omega)) rfl tk (pa_cons (pe_ix (k_ix_tup (K := K) rfl) (pv 3) pe_int (fun _ _ => rfl)) (pa_cons (pe_ix (k_ix_tup (K := K) rfl) (pv 3) pe_int (fun _ _ => rfl)) pa_nil)))))))) (fun a oe cls d pn hz hf => (pss_one (ps_set (i := 4) sc.nd rfl (by first | exact Or.inl rfl | exact Or.inr rfl) (pe_op op_add (pv 4) pe_int)))))))
  (pss_one (ps_ret (pe_cmpR op_eq (pv 4) pe_int (nomark _)))))), h.enter (R := rs_seqB (rs_seq (rs_for (rs_try fun W X => inferInstance)))) fun ds lh P hD => ?_⟩)
  obtain ⟨t, c, rs, os, rfl, ht, pic, hr5, ho, hc, hk⟩ := hD
  simp
  refine ⟨t, c, rs, os, rfl, ht, pic, hr5, ho, hc, fun r o h' g b => ?_⟩
  rw [show (rgD 0 2) = [PyData.int 0, PyData.int 1] from rfl]
  simp
  refine ⟨r, o, rfl, b.gr, b.go, .inr ⟨b.ch, fun h2 l2 => ⟨true, XX_BadValue.exm, wCond.t ?_⟩⟩⟩
  simp
  refine ⟨r, o, rfl, b.gr, b.go, fun z => absurd (b.ch.symm.trans z) (by decide), fun _ h3 l3 => ⟨true, XX_BadValue.exm, wCond.t ?_⟩⟩
  simp
  exact hk h3 ((g.trans (.ex g.ok fun a o e => l2 a o e)).trans (.ex (g.ok.ex fun a o e => l2 a o e) fun a o e => l3 a o e))
end
end K37
set_option Elab.async false
set_option linter.all false
set_option maxRecDepth 100000
set_option maxHeartbeats 1000000
namespace K37
open PySem PySem.Spec PyProof.Rows L2 Evl Pd Wl
theorem build {rs : List PyData} {os : List (List PyData)} (p : Pic rs os) {c s : Int} (hc : os ≠ [] → tot os + os.length ≤ c ∧ (os.length : Int) < s) :
    ∃ lk n, RunOk (st0 c s rs.length 3 1) (progOf rs os) (mkS c s (rs.map shv) .none .none .none lk n) ∧ ∀ k, (h : k < os.length) → lk ((k : Int) + 1) = os[k].map shv := by
  have drops : ∀ (lk : Int → List PyData) (n : Nat) (ro : List PyData) (g0 g1 g2 : PyData), RunOk (mkS c s ro g0 g1 g2 lk n) [.drop 0, .drop 1, .drop 2] (mkS c s ro .none .none .none lk n) := fun lk n ro g0 g1 g2 =>
    .cons (by rw [st_drop0]) (by rw [st_drop0]; exact .cons (by rw [st_drop1]) (by rw [st_drop1]; exact .one st_drop2))
  have e0 : st0 c s rs.length 3 1 = mkS c s (List.replicate rs.length .none) .none .none .none (fun _ => []) 0 := rfl
  rw [e0]
  by_cases ho : os = []
  · subst ho
    obtain ⟨g1', r⟩ := rootO (c := c) (s := s) (lk := fun _ => []) (cnt := 0) (n := 0) .none .none (fun z => absurd z (Nat.lt_irrefl _)) rs 0 [] .none rfl fun v hv => by
      rcases p.r v hv with h | ⟨i, e, h0, h1⟩
      · exact .inl h
      · exact .inr ⟨i, e, h0, h1⟩
    refine ⟨fun _ => [], 0, ?_, fun k h => absurd h (Nat.not_lt_zero _)⟩
    exact RunOk.append r (drops _ _ _ _ _ _)
  · obtain ⟨hc1, hc2⟩ := hc ho
    have ht := tot_nn os
    have hl : 0 < os.length := List.length_pos_iff.mpr ho
    have hf : fits (mkS c s (List.replicate rs.length .none) .none .none .none (fun _ => []) 0) (os.length : Nat) = true := by
      refine fits_in (m := 0) (B := 0) ?_ ?_ (Int.le_refl _) ?_ ?_
      · show Rin _ (List.replicate rs.length .none ++ [[PyData.none, .none, .none]].flatten)
        refine Rin.append rep_rin ?_
        exact rep_rin (k := 3)
      · intro k kn
        exact absurd kn.2 (by have := kn.1; omega)
      · show 0 + ((os.length : Nat) : Int) ≤ c; omega
      · show ((0 : Nat) : Int) < s; omega
    have s0 := st_put0 hf
    obtain ⟨lk1, a1, r1, f1, f2, _⟩ := puts (c := c) (s := s) (ro := List.replicate rs.length .none) (fun _ => rep_rin) os 0 (updL (fun _ => []) 0 (List.replicate os.length .none)) .none (by rw [updL_same]; rfl) (fun k kn k0 S => absurd kn.2 (by have := kn.1; omega)) (fun v hv m e => by
      cases List.mem_singleton.mp hv; cases e) (by
      rw [show rangeI (0 + 1) = [0] from rfl]
      simp [updL_same]
      omega) (by omega)
    rw [Nat.zero_add] at f1
    obtain ⟨lk2, b1, b2, r2, g0, g1, _⟩ := fillO (c := c) (s := s) (ro := List.replicate rs.length .none) (cnt := 0 + 1 + os.length) (n := os.length) os 0 lk1 a1 .none f1 (by omega) f2 fun o ho => (p.o o ho).2
    obtain ⟨d1, r3⟩ := rootO (c := c) (s := s) (lk := lk2) (cnt := 0 + 1 + os.length) (n := os.length) (ref 0) b2 (fun _ => ⟨rfl, g0⟩) rs 0 [] b1 rfl fun v hv => by
      rcases p.r v hv with h | ⟨i, e, h0, h1⟩
      · exact .inl h
      · exact .inr ⟨i, e, h0, h1⟩
    refine ⟨lk2, 0 + 1 + os.length, ?_, fun k h => ?_⟩
    · unfold progOf
      rw [if_neg (by simpa using ho)]
      refine RunOk.append (RunOk.append (RunOk.append (RunOk.append (RunOk.one s0) ?_) r2) r3) (drops _ _ _ _ _ _)
      exact r1
    · have := g1 k h
      rw [Nat.zero_add] at this
      exact this
section
variable {rs : List PyData} {os : List (List PyData)} {c s : Int} {lk : Int → List PyData} {n : Nat}
theorem fin_met (p : Pic rs os) (hl : ∀ k, (h : k < os.length) → lk ((k : Int) + 1) = os[k].map shv) : met (mkS c s (rs.map shv) .none .none .none lk n) = (rangeI os.length).map (· + 1) := by
  let R : Rel := fun a b => Kn os.length a ∧ b = a + 1
  have B : Bij R := ⟨fun a b b' h h' => by rw [h.2, h'.2], fun a a' b h h' => by have := h.2; have := h'.2; omega⟩
  have vr : ∀ v, PV os.length v → VR R v (shv v) := fun v hv => by
    rcases hv with rfl | ⟨i, rfl, _⟩ | ⟨m, rfl, h0, h1⟩
    · exact .non
    · exact .int i
    · exact .ref ⟨⟨h0, h1⟩, rfl⟩
  have vs : ∀ c : List PyData, (∀ v ∈ c, PV os.length v) → VRs R c (c.map shv) := fun c h => vrs_map fun v hv => vr v (h v hv)
  have rp : ∀ v ∈ rs, PV os.length v := fun v hv => by
    rcases p.r v hv with h | ⟨i, e, h0, h1⟩
    · exact .inl h
    · exact .inr (.inr ⟨i, e, h0, h1⟩)
  have lkR : ∀ a b, R a b → VRs R (lookL os a) (lk b) := fun a b ⟨ha, hb⟩ => by
    have hq : a.toNat < os.length := by have := ha.1; have := ha.2; omega
    have e1 : lookL os a = os[a.toNat] := getD_lt hq
    have e2 := hl a.toNat hq
    rw [show ((a.toNat : Nat) : Int) + 1 = b by have := ha.1; omega] at e2
    rw [e1, e2]
    exact vs _ (p.o _ (List.getElem_mem hq)).2
  have f := FR.go B lkR (n := 1002) (j := 0) (FR.scan B (vs rs rp) (f := []) (g := []) ⟨rfl, fun i a b e _ => by simp at e⟩)
  have em : met (mkS c s (rs.map shv) .none .none .none lk n) = go lk 1002 0 (scan (rs.map shv) []) := by
    show go lk 1002 0 (scan (rs.map shv ++ [[PyData.none, .none, .none]].flatten) []) = _
    rw [scan_append, scan_nones (l := [[PyData.none, .none, .none]].flatten) (fun v hv => by simpa using hv)]
  rw [em]
  have eM : go (lookL os) 1002 0 (scan rs []) = rangeI os.length := p.m
  rw [eM] at f
  apply List.ext_getElem
  · rw [← f.1, List.length_map]
  · intro i h1 h2
    have hi : i < (rangeI os.length).length := by simpa using h2
    have := f.2 i _ _ (List.getElem?_eq_getElem hi) (List.getElem?_eq_getElem h1)
    rw [List.getElem_map]
    exact this.2
theorem fin_nmd (p : Pic rs os) (hl : ∀ k, (h : k < os.length) → lk ((k : Int) + 1) = os[k].map shv) {v : PyData} (hv : PV os.length v) : nmd (mkS c s (rs.map shv) .none .none .none lk n) (shv v) = v := by
  rcases hv with rfl | ⟨i, rfl, _⟩ | ⟨m, rfl, h0, h1⟩
  · rfl
  · rfl
  · show ref (ixOf _ (m + 1)) = ref m
    unfold ixOf
    rw [fin_met p hl]
    have hi : m.toNat < ((rangeI os.length).map (· + 1)).length := by rw [List.length_map, rangeI_len]; omega
    have e : ((rangeI os.length).map (· + 1))[m.toNat] = m + 1 := by
      rw [List.getElem_map]
      unfold rangeI
      rw [List.getElem_map, List.getElem_range]
      omega
    have nd : ((rangeI os.length).map (· + 1)).Nodup := by
      have := met_nodup (st := mkS c s (rs.map shv) .none .none .none lk n)
      rwa [fin_met p hl] at this
    have := List.Nodup.idxOf_getElem nd m.toNat hi
    rw [e] at this
    rw [this, show ((m.toNat : Nat) : Int) = m by omega]
theorem fin_pict (p : Pic rs os) (hl : ∀ k, (h : k < os.length) → lk ((k : Int) + 1) = os[k].map shv) : pict (mkS c s (rs.map shv) .none .none .none lk n) = .tuple [.tuple rs, .tuple [.tuple [.none, .none, .none]], .tuple (os.map PyData.tuple)] := by
  unfold pict
  have e1 : nms (mkS c s (rs.map shv) .none .none .none lk n) (rs.map shv) = .tuple rs := by
    unfold nms
    rw [List.map_map]
    congr 1
    conv => rhs; rw [← List.map_id rs]
    refine List.map_congr_left fun v hv => ?_
    refine fin_nmd p hl ?_
    rcases p.r v hv with h | ⟨i, e, h0, h1⟩
    · exact .inl h
    · exact .inr (.inr ⟨i, e, h0, h1⟩)
  rw [fin_met p hl]
  have e2 : (((rangeI os.length).map (· + 1)).map fun k => nms (mkS c s (rs.map shv) .none .none .none lk n) ((mkS c s (rs.map shv) .none .none .none lk n).look k)) = os.map PyData.tuple := by
    apply List.ext_getElem
    · rw [List.length_map, List.length_map, rangeI_len, List.length_map]
    · intro i h1 h2
      have hi : i < os.length := by simpa using h2
      rw [List.getElem_map, List.getElem_map, List.getElem_map]
      have er : (rangeI os.length)[i]'(by rw [rangeI_len]; exact hi) = (i : Int) := by
        unfold rangeI
        rw [List.getElem_map, List.getElem_range]
      rw [er]
      show nms _ (lk ((i : Int) + 1)) = _
      rw [hl i hi]
      unfold nms
      rw [List.map_map]
      congr 1
      conv => rhs; rw [← List.map_id os[i]]
      exact List.map_congr_left fun v hv => fin_nmd p hl ((p.o _ (List.getElem_mem hi)).2 v hv)
  rw [e2]
  show PyData.tuple [nms _ (rs.map shv), _, _] = _
  rw [e1]
  rfl
theorem fin_used (p : Pic rs os) (hl : ∀ k, (h : k < os.length) → lk ((k : Int) + 1) = os[k].map shv) : used (mkS c s (rs.map shv) .none .none .none lk n) = tot os := by
  unfold used tot
  rw [fin_met p hl]
  congr 1
  apply List.ext_getElem
  · rw [List.length_map, List.length_map, rangeI_len, List.length_map]
  · intro i h1 h2
    have hi : i < os.length := by simpa using h2
    rw [List.getElem_map, List.getElem_map, List.getElem_map]
    have er : (rangeI os.length)[i]'(by rw [rangeI_len]; exact hi) = (i : Int) := by
      unfold rangeI
      rw [List.getElem_map, List.getElem_range]
    rw [er]
    show ((lk ((i : Int) + 1)).length : Int) = _
    rw [hl i hi, List.length_map]
theorem fin_len (p : Pic rs os) (hl : ∀ k, (h : k < os.length) → lk ((k : Int) + 1) = os[k].map shv) : (met (mkS c s (rs.map shv) .none .none .none lk n)).length = os.length := by
  rw [fin_met p hl, List.length_map, rangeI_len]
end
/-! the operations are right -/
def okA (R : Int) (l : List Op) : Prop := ∀ op ∈ l, op.ok R 3
theorem okA.app {R : Int} {l m : List Op} (h : okA R l) (k : okA R m) : okA R (l ++ m) := fun op ho => (List.mem_append.mp ho).elim (h op) (k op)
theorem okA.nil {R : Int} : okA R [] := fun _ h => by cases h
theorem okA.cons {R : Int} {op : Op} {l : List Op} (h : op.ok R 3) (k : okA R l) : okA R (op :: l) := fun o ho => (List.mem_cons.mp ho).elim (fun z => z ▸ h) (k o)
theorem put_ok {R : Int} : ∀ {os : List (List PyData)} {i : Nat}, (∀ o ∈ os, o ≠ [] ∧ o.length ≤ 50) → i + os.length ≤ 1000 → okA R (putOps os i)
  | [], _, _, _ => .nil
  | o :: os, i, h, hi => by
    rw [List.length_cons] at hi
    obtain ⟨h1, h2⟩ := h o (by simp)
    have h3 := List.length_pos_iff.mpr h1
    refine .cons ⟨⟨by omega, by omega⟩, by omega, by omega⟩ (.cons ⟨⟨by omega, by omega⟩, ⟨by omega, by omega⟩, by omega, by omega⟩ (put_ok (fun o ho => h o (by simp [ho])) (by omega)))
theorem fill_ok {R : Int} {i k n : Nat} {v : PyData} (hv : PV n v) (hi : i ≤ 1000) (hk : k ≤ 1000) (hn : n ≤ 1000) : okA R (fillOps i k v) := by
  rcases hv with rfl | ⟨x, rfl, hx⟩ | ⟨m, rfl, h0, h1⟩
  · exact .nil
  · exact .cons ⟨⟨by omega, by omega⟩, ⟨by omega, by omega⟩, by omega, by omega⟩ (.cons ⟨⟨by omega, by omega⟩, ⟨by omega, by omega⟩, hx⟩ .nil)
  · exact .cons ⟨⟨by omega, by omega⟩, ⟨by omega, by omega⟩, by omega, by omega⟩ (.cons ⟨⟨by omega, by omega⟩, ⟨by omega, by omega⟩, by omega, by omega⟩ (.cons ⟨⟨by omega, by omega⟩, ⟨by omega, by omega⟩, by omega, by omega⟩ .nil))
theorem cell_ok {R : Int} {i n : Nat} (hi : i ≤ 1000) (hn : n ≤ 1000) : ∀ {vs : List PyData} {k : Nat}, (∀ v ∈ vs, PV n v) → k + vs.length ≤ 1000 → okA R (cellOps i vs k)
  | [], _, _, _ => .nil
  | v :: vs, k, h, hk => by
    rw [List.length_cons] at hk
    exact (fill_ok (h v (by simp)) hi (by omega) hn).app (cell_ok hi hn (fun u hu => h u (by simp [hu])) (by omega))
theorem obj_ok {R : Int} {n : Nat} (hn : n ≤ 1000) : ∀ {os : List (List PyData)} {i : Nat}, (∀ o ∈ os, (∀ v ∈ o, PV n v) ∧ o.length ≤ 50) → i + os.length ≤ 1000 → okA R (objOps os i)
  | [], _, _, _ => .nil
  | o :: os, i, h, hi => by
    rw [List.length_cons] at hi
    obtain ⟨h1, h2⟩ := h o (by simp)
    exact (cell_ok (by omega) hn h1 (by omega)).app (obj_ok hn (fun u hu => h u (by simp [hu])) (by omega))
theorem root_ok {R : Int} {n : Nat} (hn : n ≤ 1000) : ∀ {rs : List PyData} {i : Nat}, (∀ v ∈ rs, PV n v) → i + rs.length ≤ R → okA R (rootOps rs i)
  | [], _, _, _ => .nil
  | v :: rs, i, h, hi => by
    rw [List.length_cons] at hi
    refine .cons ?_ (.cons ⟨⟨by omega, by omega⟩, by omega, by omega⟩ (root_ok hn (fun u hu => h u (by simp [hu])) (by omega)))
    rcases h v (by simp) with rfl | ⟨x, rfl, hx⟩ | ⟨m, rfl, h0, h1⟩
    · exact ⟨by omega, by omega⟩
    · exact ⟨by omega, by omega⟩
    · exact ⟨⟨by omega, by omega⟩, ⟨by omega, by omega⟩, by omega, by omega⟩
theorem prog_ok {rs : List PyData} {os : List (List PyData)} (p : Pic rs os) (h1 : os.length ≤ 50) (h2 : ∀ o ∈ os, o.length ≤ 50) : okA rs.length (progOf rs os) := by
  unfold progOf
  refine okA.app (okA.app (okA.app (okA.app ?_ (put_ok (fun o ho => ⟨(p.o o ho).1, h2 o ho⟩) (by omega))) (obj_ok (n := os.length) (by omega) (fun o ho => ⟨(p.o o ho).2, h2 o ho⟩) (by omega))) (root_ok (n := os.length) (by omega) (fun v hv => by
    rcases p.r v hv with h | ⟨i, e, h0, h1⟩
    · exact .inl h
    · exact .inr (.inr ⟨i, e, h0, h1⟩)) (by omega))) (.cons ⟨by omega, by omega⟩ (.cons ⟨by omega, by omega⟩ (.cons ⟨by omega, by omega⟩ .nil)))
  split
  · exact .nil
  · rename_i c
    have : os ≠ [] := by simpa using c
    have := List.length_pos_iff.mpr this
    exact .cons ⟨⟨by omega, by omega⟩, by omega, by omega⟩ .nil
end K37
set_option Elab.async false
set_option linter.all false
set_option maxRecDepth 100000
set_option maxHeartbeats 4000000
set_option synthInstance.maxHeartbeats 1000000
set_option synthInstance.maxSize 1000000
namespace K37
open PySem PySem.Spec PyProof.Rows L2 Evl Pd Wl
/-- what is compared -/
inductive Lit : Nat → PyData → Prop
  | non (n : Nat) : Lit (n + 1) .none
  | int (n : Nat) (i : Int) : Lit (n + 1) (.int i)
  | str (n : Nat) (s : Str) : PyData.strOk s = true → Lit (n + 1) (.str s)
  | tup (n : Nat) (ds : List PyData) : ds.length ≤ 100000 → (∀ d ∈ ds, Lit n d) → Lit (n + 1) (.tuple ds)
open Classical in
noncomputable def eqB (x y : PyData) : Bool := decide (x = y)
theorem eqB_t {x : PyData} : eqB x x = true := by simp [eqB]
theorem eqB_f {x y : PyData} (h : x ≠ y) : eqB x y = false := by simp [eqB, h]
section
variable {P : Program} {w : World} {K : PySem.W.Frag} {mg : Str → Option Value} {base : Heap}
theorem cal_none {x : Str} {st : Stmt} {ps : List Str} {CX : CXT} {k : Nat} {D : List PyData → Lh → Wv → Prop} (S : Src K mg x st ps) (hD : ∀ ds h P, ¬ D ds h P) : Cal P w K mg base CX k x ps (SpW K D) := by
  obtain ⟨f, fd, hm, hF, hb⟩ := S.ex
  exact ⟨f, fd, hm, hF.kp, hb, ⟨fun _ _ _ _ ⟨_, _, _, _, _, _, _, h, _⟩ => (hD _ _ _ h).elim, fun _ _ _ _ _ _ _ _ _ _ _ _ _ ⟨_, _, _, _, _, _, _, h, _⟩ => (hD _ _ _ h).elim⟩⟩
def D_same (n : Nat) (ds : List PyData) (h : Lh) (P : Wv) : Prop := ∃ x y, ds = [x, y] ∧ Lit n x ∧ Lit n y ∧ P (.bool (eqB x y)) h
theorem lit_sh {n : Nat} {s : Str} (h : PyData.strOk s = true) : SeqAt.shaped (.str s) = true := sh_str h
theorem same_step {k n : Nat} (S : Src K mg "_law_same" st__law_same ["one", "other"]) (T : Txt K mg) (C__law_same : Cal P w K mg base CX0 k "_law_same" ["one", "other"] (SpW K (D_same n))) : Cal P w K mg base CX0 (k + 1) "_law_same" ["one", "other"] (SpW K (D_same (n + 1))) := by
  have sc := sc__law_same
  refine S.cal (k := k) sc (SpW.len fun ds h P z => by obtain ⟨_, _, rfl, _⟩ := z; rfl) (fun f cdv A outer s H vs Q E0 hr h => ⟨_, (pss_cons (ps_if (PW.pt (pw_or (pt_val (pe_callB (k_isi (K := K) rfl) (by rfl) T.n_isinstance (by decide +kernel) (pa_cons (pv 0) (pa_cons (pe_bltn (v := .ty "tuple") (by rfl) T.n_tuple (by decide +kernel) rfl) pa_nil)))) (pw_or1 (pt_val (pe_callB (k_isi (K := K) rfl) (by rfl) T.n_isinstance (by decide +kernel) (pa_cons (pv 1) (pa_cons (pe_bltn (v := .ty "tuple") (by rfl) T.n_tuple (by decide +kernel) rfl) pa_nil))))))) (pss_cons (ps_if (PW.pt (pw_or (pt_not (pt_val (pe_callB (k_isi (K := K) rfl) (by rfl) T.n_isinstance (by decide +kernel) (pa_cons (pv 0) (pa_cons (pe_bltn (v := .ty "tuple") (by rfl) T.n_tuple (by decide +kernel) rfl) pa_nil))))) (pw_or (pt_not (pt_val (pe_callB (k_isi (K := K) rfl) (by rfl) T.n_isinstance (by decide +kernel) (pa_cons (pv 1) (pa_cons (pe_bltn (v := .ty "tuple") (by rfl) T.n_tuple (by decide +kernel) rfl) pa_nil))))) (pw_or1 (pt_cmpR op_ne (pe_callB (k_len_seq (K := K) rfl) (by rfl) T.n_len PySem.boot_len (pa_cons (pv 0) pa_nil)) (pe_callB (k_len_seq (K := K) rfl) (by rfl) T.n_len PySem.boot_len (pa_cons (pv 1) pa_nil)) (nomark _)))))) (pss_one (ps_ret pe_bl)) pss_nil)
  (pss_one (ps_ret (pe_callB (k_all (K := K) rfl rfl) (by rfl) T.n_all (by decide +kernel) (pa_cons (pe_lc (own := [("k", 2)]) rfl sc.nd (pi_range1 (by rfl) T.n_range (pa_cons (pe_callB (k_len_seq (K := K) rfl) (by rfl) T.n_len PySem.boot_len (pa_cons (pv 0) pa_nil)) pa_nil)) (blkOk_by (by first | decide +kernel | kernel_rfl)) (fun _ _ _ _ _ => (pg_name (i := 2) sc.nd rfl (by first | exact Or.inl rfl | exact Or.inr rfl))) (fun _ _ _ _ _ => pts_nil) (fun _ _ _ _ _ => (pe_cal C__law_same (hr.mono (by first | decide | omega)) rfl pass0 (pa_cons (pe_ix (k_ix_tup (K := K) rfl) (pv 0) (pv 2) (fun _ _ => rfl)) (pa_cons (pe_ix (k_ix_tup (K := K) rfl) (pv 1) (pv 2) (fun _ _ => rfl)) pa_nil))))) pa_nil))))) pss_nil)
  (pss_cons (ps_if (PW.pt (pw_or (pt_cmpR op_ne (pe_callB (k_isi (K := K) rfl) (by rfl) T.n_isinstance (by decide +kernel) (pa_cons (pv 0) (pa_cons (pe_bltn (v := .ty "str") (by rfl) T.n_str (by decide +kernel) rfl) pa_nil))) (pe_callB (k_isi (K := K) rfl) (by rfl) T.n_isinstance (by decide +kernel) (pa_cons (pv 1) (pa_cons (pe_bltn (v := .ty "str") (by rfl) T.n_str (by decide +kernel) rfl) pa_nil))) (nomark _)) (pw_or1 (pt_cmpR op_ne (pe_callB (k_isi (K := K) rfl) (by rfl) T.n_isinstance (by decide +kernel) (pa_cons (pv 0) (pa_cons (pe_bltn (v := .ty "int") (by rfl) T.n_int (by decide +kernel) rfl) pa_nil))) (pe_callB (k_isi (K := K) rfl) (by rfl) T.n_isinstance (by decide +kernel) (pa_cons (pv 1) (pa_cons (pe_bltn (v := .ty "int") (by rfl) T.n_int (by decide +kernel) rfl) pa_nil))) (nomark _))))) (pss_one (ps_ret pe_bl)) pss_nil)
  (pss_one (ps_ret (pe_cmpR (k_eqD (K := K) rfl (hr.units)) (pv 0) (pv 1) (nomark _)))))), h.enter fun ds lh P hD => ?_⟩)
  obtain ⟨x, y, rfl, hx, hy, hk⟩ := hD
  have s1 : SeqAt.shaped .none = true := by decide +kernel
  have s2 : ∀ b, SeqAt.shaped (.bool b) = true := by decide +kernel
  have s3 : ∀ i, SeqAt.shaped (.int i) = true := fun i => by simp [SeqAt.shaped, PyData.canLay0, PyData.depth]
  cases hx with
  | tup _ xs lx hxs =>
    cases hy with
    | tup _ ys ly hys =>
      simp
      refine wCond.p (fun c => ?_) fun c => ?_
      · have er : rgD 0 ((xs.length : Nat) : Int) = (List.range xs.length).map fun (j : Nat) => .int (j : Int) := by simp [rgD]
        rw [er]
        refine ⟨by omega, lcL_map (emb := fun j : Nat => PyData.int (j : Int)) (fun j => .bool (eqB (xs.getD j .none) (ys.getD j .none))) trivial (by simpa using lx) (fun j hj F hF => ?_) ?_⟩
        · have hj1 : j < xs.length := List.mem_range.mp hj
          have hj2 : j < ys.length := by rw [← show xs.length = ys.length from c]; exact hj1
          have e1 : atI xs (j : Int) = some (xs.getD j .none) := atI_nat (by rw [getD_lt hj1, List.getElem?_eq_getElem hj1])
          have e2 : atI ys (j : Int) = some (ys.getD j .none) := atI_nat (by rw [getD_lt hj2, List.getElem?_eq_getElem hj2])
          simp only [List.getD_eq_getElem?_getD] at e1 e2 hF
          simp [e1, e2]
          have g1 := hxs _ (getD_mem (d := PyData.none) hj1)
          have g2 := hys _ (getD_mem (d := PyData.none) hj2)
          simp only [List.getD_eq_getElem?_getD] at g1 g2
          exact ⟨_, _, rfl, g1, g2, hF⟩
        · simp only [boolL_mapF]
          refine ⟨_, rfl, ?_⟩
          have : ((List.range xs.length).map fun j => eqB (xs.getD j .none) (ys.getD j .none)).all id = eqB (.tuple xs) (.tuple ys) := by
            by_cases q : xs = ys
            · subst q
              rw [eqB_t, List.all_eq_true]
              intro b hb
              obtain ⟨j, _, rfl⟩ := List.mem_map.mp hb
              simp [eqB_t]
            · rw [eqB_f (by simpa using q), List.all_eq_false]
              refine Classical.byContradiction fun z => q (List.ext_getElem c fun j h1 h2 => ?_)
              refine Classical.byContradiction fun w => z ⟨_, List.mem_map.mpr ⟨j, List.mem_range.mpr h1, rfl⟩, ?_⟩
              rw [getD_lt h1, getD_lt h2, eqB_f w]
              simp
          rw [this]; exact hk
      · rw [eqB_f (by intro z; injection z with z; exact c (by rw [z]))] at hk
        exact hk
    | _ => rw [eqB_f (by simp)] at hk; simpa using hk
  | non =>
    cases hy with
    | non => simp [s1, PyData.eqv, eqB_t] at hk ⊢; exact hk
    | str _ u hu => rw [eqB_f (by simp)] at hk; simpa using hk
    | _ => rw [eqB_f (by simp)] at hk; simpa using hk
  | int _ i =>
    cases hy with
    | int _ j =>
      have : eqB (.int i) (.int j) = (i == j) := by by_cases q : i = j <;> simp [q, eqB]
      rw [this] at hk
      simp [s3, PyData.eqv]; exact hk
    | _ => rw [eqB_f (by simp)] at hk; simpa using hk
  | str _ z hz =>
    cases hy with
    | str _ u hu =>
      have : eqB (.str z) (.str u) = PyData.eqv (.str z) (.str u) := by
        rw [eqv_str]
        by_cases q : z = u
        · subst q; simp [eqB_t]
        · rw [eqB_f (by simpa using q)]; simp [q]
      rw [this] at hk
      simp [sh_str hz, sh_str hu]; exact hk
    | _ => rw [eqB_f (by simp)] at hk; simpa using hk
theorem cal_same (S : Src K mg "_law_same" st__law_same ["one", "other"]) (T : Txt K mg) : ∀ n, Cal P w K mg base CX0 n "_law_same" ["one", "other"] (SpW K (D_same n))
  | 0 => cal_none S fun ds h P ⟨_, _, _, z, _⟩ => by cases z
  | n + 1 => same_step S T (cal_same S T n)
end
end K37
set_option Elab.async false
set_option linter.all false
set_option maxRecDepth 100000
set_option maxHeartbeats 4000000
set_option synthInstance.maxHeartbeats 1000000
set_option synthInstance.maxSize 1000000
namespace K37
open PySem PySem.Spec PyProof.Rows L2 Evl Pd Wl
section
variable {P : Program} {w : World} {K : PySem.W.Frag} {mg : Str → Option Value} {base : Heap} {C : Addr} {XV : Addr}
def D_reach (C : Addr) (ds : List PyData) (h : Lh) (P : Wv) : Prop := ∃ (st : PSt) (p : Pl) (S : List Int), ds = [rf p.a] ∧ PlainK C st p S h ∧ Clo st S ∧
  ∀ (L : List Int) h', Lx h h' → L.length = (met st).length → P (.tuple (L.map .int)) h'
theorem cal_reachable (S : SrcM K C "reachable" "Plain.reachable" st_Plain_reachable ["self"]) (T : Txt K mg) (TT : TTxt K C) (M__met : CalM P w K mg base CX0 2 C "_met" ["self"] (SpW K (D_met C))) : CalM P w K mg base CX0 3 C "reachable" ["self"] (SpW K (D_reach C)) := by
  have sc := sc_Plain_reachable
  refine S.cal (k := 2) sc (SpW.len fun ds h P z => by obtain ⟨_, _, _, rfl, _⟩ := z; rfl) (fun f cdv A outer s H vs Q E hr h => ⟨_, (pss_one (ps_ret (pe_callTy (k_tuple_of (K := K) rfl) (by rfl) T.n_tuple (by decide +kernel) (pa_cons (pe_callB (k_sortedI (K := K) rfl) (by rfl) T.n_sorted (by decide +kernel) (pa_cons (pe_calM0 M__met TT.cl (hr.mono (by first | decide | omega)) pass0 (pv 0)) pa_nil)) pa_nil)))), h.enter fun ds lh P hD => ?_⟩)
  obtain ⟨st, p, Sk, rfl, A0, Cl, hk⟩ := hD
  simp [A0.a]
  refine ⟨st, p, Sk, rfl, A0, Cl, fun q h1 lx hq e => ?_⟩
  simp [e, lv, qv]
  refine ⟨met st, rfl, fun L hL _ => ?_⟩
  exact hk L h1 lx hL.length_eq
theorem cl_objs : ∀ {os : List (List PyData)}, (∀ o ∈ os, ∀ v ∈ o, SV v) → clean (objsD os) = true
  | [], _ => rfl
  | o :: os, h => by
    have h1 : clean (.tuple o) = true := sv_cleans (h o (by simp))
    have h2 := cl_objs fun o' ho => h o' (List.mem_cons_of_mem _ ho)
    show (clean (.tuple o) && clean (objsD os)) = true
    rw [h1, h2]; rfl
theorem key {z : Prop} {C : Prop → Prop} (h : z) (k : z → C z) : C z := k h
theorem tape_on {t c : Addr} {h h' : Lh} (k : TapeOk t c h) (f : ∀ a o, a = t ∨ a = c → h a = some o → h' a = some o) : TapeOk t c h' := by
  obtain ⟨ne, ⟨s, e, s1, s2⟩, ns, e2, n1, n2⟩ := k
  exact ⟨ne, ⟨s, f _ _ (.inl rfl) e, s1, s2⟩, ns, f _ _ (.inr rfl) e2, n1, n2⟩
theorem objOps_len2 : ∀ {os : List (List PyData)} {i : Nat}, (∀ c ∈ os, c.length ≤ 2) → (objOps os i).length ≤ 6 * os.length
  | [], _, _ => Nat.le_refl _
  | o :: os, i, h => by
    have h1 := cellOps_len (vs := o) (i := i) (k := 0)
    have h0 := h o (by simp)
    have h2 := objOps_len2 (os := os) (i := i + 1) fun c hc => h c (by simp [hc])
    show (cellOps i o 0 ++ objOps os (i + 1)).length ≤ _
    rw [List.length_append, List.length_cons]
    omega
theorem prog_len {rs : List PyData} {os : List (List PyData)} (h1 : rs.length ≤ 3) (h2 : os.length ≤ 7) (h3 : ∀ c ∈ os, c.length ≤ 2) : (progOf rs os).length ≤ 200 := by
  unfold progOf
  have a1 : (if os.isEmpty then [] else [Op.put 0 os.length]).length ≤ 1 := by split <;> simp
  have a2 := putOps_len (os := os) (i := 0)
  have a3 := objOps_len2 (os := os) (i := 0) h3
  have a4 := rootOps_len (rs := rs) (i := 0)
  simp only [List.length_append, List.length_cons, List.length_nil]
  omega
theorem st0_shp {c s : Int} {R : Nat} : Shp (st0 c s R 3 1) R 3 := ⟨List.length_replicate, fun row h => by rw [(List.mem_replicate.mp h).2, List.length_replicate]⟩
theorem law_body {fa : Addr} {fd : FuncData} (FL : Fun K "law" "law" st_law fa fd) (T : Txt K mg) (TT : TTxt K C)
    (C__law_tape : Cal P w K mg base CX0 1 "_law_tape" ["script"] (SpW K D_tape)) (C__law_draw : Cal P w K mg base CX0 1 "_law_draw" ["tape", "many"] (SpW K D_draw))
    (C__law_heap : Cal P w K mg base CX0 3 "_law_heap" ["tape", "roots", "registers", "most"] (SpW K D_heap))
    (C_check_picture : Cal P w K mg base CX0 4 "check_picture" ["roots", "objects"] (SpW K fun ds h P => D_check XV ds h P fun _ _ _ => False))
    (C__law_is_picture : Cal P w K mg base CX0 2 "_law_is_picture" ["roots", "objects"] (SpW K D_ispic))
    (C_room_of : Cal P w K mg base CX0 1 "room_of" ["objects"] (SpW K D_room))
    (C_builder_of : Cal P w K mg base CX0 5 "builder_of" ["roots", "objects"] (SpW K fun ds h P => D_builder XV ds h P fun _ _ _ => False))
    (C_Plain : CalCK P w K mg base CX0 1 "Plain" C ["self", "cells", "slots", "roots", "registers", "threads"] 2 ["roots", "registers", "threads"] (SpW K (D_init C)))
    (M_do : CalM P w K mg base CX0 5 C "do" ["self", "thread", "operation"] (SpW K (D_do C))) (M_picture : CalM P w K mg base CX0 3 C "picture" ["self"] (SpW K (D_picture C))) (M_used : CalM P w K mg base CX0 3 C "used" ["self"] (SpW K (D_used C))) (M_reachable : CalM P w K mg base CX0 3 C "reachable" ["self"] (SpW K (D_reach C)))
    (C__law_same : Cal P w K mg base CX0 5 "_law_same" ["one", "other"] (SpW K (D_same 5)))
    (C__law_refused : Cal P w K mg base CX0 6 "_law_refused" ["tape", "roots", "objects"] (SpW K D_refused)) : FnOk P w K mg base CX0 7 fa fd ["script"] (SpW K D_lawT) := by
  have sc := sc_law
  refine FL.ok sc (SpW.len fun ds h P z => by obtain ⟨_, rfl, _⟩ := z; rfl) (fun cdv A outer s H vs Q E hr h => ⟨_, (pss_cons (ps_set (i := 1) sc.nd rfl (by first | exact Or.inl rfl | exact Or.inr rfl) (pe_cal C__law_tape (hr.mono (by first | decide | omega)) rfl pass0 (pa_cons (pv 0) pa_nil)))
  (pss_cons (ps_for PassesOwn.never rfl (pi_range1 (by rfl) T.n_range (pa_cons pe_int pa_nil)) (pg_name (i := 2) sc.nd rfl (by first | exact Or.inl rfl | exact Or.inr rfl)) (pss_cons (ps_set (i := 3) sc.nd rfl (by first | exact Or.inl rfl | exact Or.inr rfl) (pe_cal C__law_draw (hr.mono (by first | decide | omega)) rfl pass0 (pa_cons (pv 1) (pa_cons pe_int pa_nil))))
  (pss_cons (ps_asg (pe_cal C__law_heap (hr.mono (by first | decide | omega)) rfl pass0 (pa_cons (pv 1) (pa_cons (pv 3) (pa_cons pe_int (pa_cons pe_int pa_nil))))) (k_pg_tup (K := K) (n := 3) rfl rfl (pgs_cons (pg_name (i := 4) sc.nd rfl (by first | exact Or.inl rfl | exact Or.inr rfl)) (pgs_cons (pg_name (i := 5) sc.nd rfl (by first | exact Or.inl rfl | exact Or.inr rfl)) (pgs_cons (pg_name (i := 6) sc.nd rfl (by first | exact Or.inl rfl | exact Or.inr rfl)) pgs_nil)))))
  (pss_cons (ps_if (PW.pt (pw_or (pt_cmpR op_notN (pe_cal C_check_picture (hr.mono (by first | decide | omega)) rfl pass0 (pa_cons (pv 4) (pa_cons (pv 6) pa_nil))) pe_non (nomark _)) (pw_or1 (pt_not (pt_val (pe_cal C__law_is_picture (hr.mono (by first | decide | omega)) rfl pass0 (pa_cons (pv 4) (pa_cons (pv 6) pa_nil)))))))) (pss_one (ps_ret pe_bl)) pss_nil)
  (pss_cons (ps_asg (pe_cal C_room_of (hr.mono (by first | decide | omega)) rfl pass0 (pa_cons (pv 6) pa_nil)) (k_pg_tup (K := K) (n := 2) rfl rfl (pgs_cons (pg_name (i := 7) sc.nd rfl (by first | exact Or.inl rfl | exact Or.inr rfl)) (pgs_cons (pg_name (i := 8) sc.nd rfl (by first | exact Or.inl rfl | exact Or.inr rfl)) pgs_nil))))
  (pss_cons (ps_if (PW.pt (pw_and (pt_cmpR op_eq (pe_callB (k_len_seq (K := K) rfl) (by rfl) T.n_len PySem.boot_len (pa_cons (pv 6) pa_nil)) pe_int (nomark _)) (pw_and1 (pt_cmpR (k_neD (K := K) rfl (hr.units)) (pe_tup (pa_cons (pv 7) (pa_cons (pv 8) pa_nil))) (pe_tup (pa_cons pe_int (pa_cons pe_int pa_nil))) (nomark _))))) (pss_one (ps_ret pe_bl)) pss_nil)
  (pss_cons (ps_if (PW.pt (pw_or (pt_cmpR op_lt (pv 7) (pe_callB (k_sum (K := K) rfl rfl) (by rfl) T.n_sum (by decide +kernel) (pa_cons (pe_lc (own := [("one", 13)]) rfl sc.nd (k_pi_tup (K := K) rfl (pv 6)) (blkOk_by (by first | decide +kernel | kernel_rfl)) (fun _ _ _ _ _ => (pg_name (i := 13) sc.nd rfl (by first | exact Or.inl rfl | exact Or.inr rfl))) (fun _ _ _ _ _ => pts_nil) (fun _ _ _ _ _ => (pe_callB (k_len_seq (K := K) rfl) (by rfl) T.n_len PySem.boot_len (pa_cons (pv 13) pa_nil)))) pa_nil)) (nomark _)) (pw_or1 (pt_cmpR op_lt (pv 8) (pe_callB (k_len_seq (K := K) rfl) (by rfl) T.n_len PySem.boot_len (pa_cons (pv 6) pa_nil)) (nomark _))))) (pss_one (ps_ret pe_bl)) pss_nil)
  (pss_cons (ps_set (i := 9) sc.nd rfl (by first | exact Or.inl rfl | exact Or.inr rfl) (pe_cal C_builder_of (hr.mono (by first | decide | omega)) rfl pass0 (pa_cons (pv 4) (pa_cons (pv 6) pa_nil))))
  (pss_cons (ps_set (i := 10) sc.nd rfl (by first | exact Or.inl rfl | exact Or.inr rfl) (pe_cal C__law_draw (hr.mono (by first | decide | omega)) rfl pass0 (pa_cons (pv 1) (pa_cons pe_int pa_nil))))
  (pss_cons (ps_set (i := 11) sc.nd rfl (by first | exact Or.inl rfl | exact Or.inr rfl) (pe_mkCK C_Plain (hr.mono (by first | decide | omega)) rfl pass0 (pa_cons (pe_op op_add (pe_callB (call_max2 rfl) (by rfl) T.n_max (by decide +kernel) (pa_cons pe_int (pa_cons (pv 7) pa_nil))) (pv 10)) (pa_cons (pe_op op_add (pe_callB (call_max2 rfl) (by rfl) T.n_max (by decide +kernel) (pa_cons pe_int (pa_cons (pv 8) pa_nil))) (pv 10)) pa_nil)) (pk_cons (pv 3) (pk_cons pe_int (pk_cons pe_int pk_nil)))))
  (pss_cons (ps_setLc (i := 12) (own := [("operation", 14)]) rfl sc.nd rfl rfl (sw_true rfl rfl rfl (by decide +kernel)) (k_pi_tup (K := K) rfl (pv 9)) (blkOk_by (by first | decide +kernel | kernel_rfl)) (fun _ _ _ _ _ => (pg_name (i := 14) sc.nd rfl (by first | exact Or.inl rfl | exact Or.inr rfl))) (fun _ _ _ _ _ => pts_nil) (fun _ _ _ _ _ => (pe_calM M_do TT.cl (hr.mono (by first | decide | omega)) pass0 (pv 11) (pa_cons pe_int (pa_cons (pv 14) pa_nil)))))
  (pss_cons (ps_if (PW.pt (pw_or (pt_not (pt_val (pe_callB (k_isi (K := K) rfl) (by rfl) T.n_isinstance (by decide +kernel) (pa_cons (pv 9) (pa_cons (pe_bltn (v := .ty "tuple") (by rfl) T.n_tuple (by decide +kernel) rfl) pa_nil))))) (pw_or1 (pt_not (pt_val (pe_callB (k_all (K := K) rfl rfl) (by rfl) T.n_all (by decide +kernel) (pa_cons (pe_lc (own := [("answer", 15)]) rfl sc.nd (k_pi_list (K := K) rfl (pv 12)) (blkOk_by (by first | decide +kernel | kernel_rfl)) (fun _ _ _ _ _ => (pg_name (i := 15) sc.nd rfl (by first | exact Or.inl rfl | exact Or.inr rfl))) (fun _ _ _ _ _ => pts_nil) (fun _ _ _ _ _ => (pe_cmpR (k_notIn_seq (K := K) rfl) (pe_ix (k_ix_tup (K := K) rfl) (pv 15) pe_int (fun _ _ => rfl)) (pe_lst (pa_cons pe_str (pa_cons pe_str (pa_cons pe_str pa_nil)))) (by rfl)))) pa_nil))))))) (pss_one (ps_ret pe_bl)) pss_nil)
  (pss_cons (ps_if (pt_not (pt_val (pe_cal C__law_same (hr.mono (by first | decide | omega)) rfl pass0 (pa_cons (pe_calM0 M_picture TT.cl (hr.mono (by first | decide | omega)) pass0 (pv 11)) (pa_cons (pe_tup (pa_cons (pv 4) (pa_cons (pe_tup (pa_cons (pe_tup (pa_cons pe_non (pa_cons pe_non (pa_cons pe_non pa_nil)))) pa_nil)) (pa_cons (pv 6) pa_nil)))) pa_nil))))) (pss_one (ps_ret pe_bl)) pss_nil)
  (pss_cons (ps_if (PW.pt (pw_or (pt_cmpR op_ne (pe_calM0 M_used TT.cl (hr.mono (by first | decide | omega)) pass0 (pv 11)) (pe_callB (k_sum (K := K) rfl rfl) (by rfl) T.n_sum (by decide +kernel) (pa_cons (pe_lc (own := [("one", 13)]) rfl sc.nd (k_pi_tup (K := K) rfl (pv 6)) (blkOk_by (by first | decide +kernel | kernel_rfl)) (fun _ _ _ _ _ => (pg_name (i := 13) sc.nd rfl (by first | exact Or.inl rfl | exact Or.inr rfl))) (fun _ _ _ _ _ => pts_nil) (fun _ _ _ _ _ => (pe_callB (k_len_seq (K := K) rfl) (by rfl) T.n_len PySem.boot_len (pa_cons (pv 13) pa_nil)))) pa_nil)) (nomark _)) (pw_or1 (pt_cmpR op_ne (pe_callB (k_len_seq (K := K) rfl) (by rfl) T.n_len PySem.boot_len (pa_cons (pe_calM0 M_reachable TT.cl (hr.mono (by first | decide | omega)) pass0 (pv 11)) pa_nil)) (pe_callB (k_len_seq (K := K) rfl) (by rfl) T.n_len PySem.boot_len (pa_cons (pv 6) pa_nil)) (nomark _))))) (pss_one (ps_ret pe_bl)) pss_nil)
  (pss_one (ps_if (pt_not (pt_val (pe_cal C__law_refused (hr.mono (by first | decide | omega)) rfl pass0 (pa_cons (pv 1) (pa_cons (pv 4) (pa_cons (pv 6) pa_nil)))))) (pss_one (ps_ret pe_bl)) pss_nil))))))))))))))))
  (pss_one (ps_ret pe_bl)))), h.enter fun ds lh P hD => ?_⟩)
  obtain ⟨ns, rfl, hl, rfl, hk⟩ := hD
  refine wSeq_step fun B hB => ?_
  simp
  refine ⟨ns, rfl, hl, fun t c h1 ht0 hc0 g1 => ?_⟩
  subst hB
  refine wSeq_step fun B hB => ?_
  simp
  refine forL_run (fun ds ρ h => ∃ (n : Nat) (o2 o3 o4 o5 o6 o7 o8 o9 o10 o11 o12 o13 o14 o15 : Option PyData), ds = rgD n 2 ∧ ρ = [some (PyData.dict [(PyData.none, PyData.tuple (List.map PyData.int ns))]), some (rf t), o2, o3, o4, o5, o6, o7, o8, o9, o10, o11, o12, o13, o14, o15] ∧ TapeOk t c h) ?_ ?_ ⟨0, none, none, none, none, none, none, none, none, none, none, none, none, none, none, rfl, rfl, g1.ok⟩
  · rintro d ds ρ h ⟨n, o2, o3, o4, o5, o6, o7, o8, o9, o10, o11, o12, o13, o14, o15, ed, rfl, tk⟩
    have hn : n < 2 := by
      rcases Nat.lt_or_ge n 2 with q | q
      · exact q
      · rw [rgD_nil (by omega)] at ed; cases ed
    rw [rgD_cons (by omega)] at ed
    obtain ⟨rfl, rfl⟩ := List.cons.inj ed
    refine ⟨trivial, fun F hF => ?_⟩
    have hF2 := fun o2 o3 o4 o5 o6 o7 o8 o9 o10 o11 o12 o13 o14 o15 h' (tk : TapeOk t c h') => hF [some (PyData.dict [(PyData.none, PyData.tuple (List.map PyData.int ns))]), some (rf t), o2, o3, o4, o5, o6, o7, o8, o9, o10, o11, o12, o13, o14, o15] h' ⟨n + 1, o2, o3, o4, o5, o6, o7, o8, o9, o10, o11, o12, o13, o14, o15, by rfl, rfl, tk⟩
    clear hF
    refine wSeq_step fun B2 hB2 => ?_
    simp
    refine D_draw_run (m := 4) tk (by decide) (by decide) fun R hR h2 g2 => ?_
    subst hB2
    refine wSeq_step fun B2 hB2 => ?_
    simp
    refine ⟨t, c, R, rfl, g2.ok, by omega, fun rs os h3 g3 pic hrl hol hoc => ?_⟩
    simp
    have hoc5 : ∀ c ∈ os, c.length ≤ 5 := fun c hc => by have := hoc c hc; omega
    have gr := pic.gr (by omega)
    have go := pic.go (by omega) hoc5
    have lR : ∀ n v, PV n v → Lit 2 v := fun n v hv => by
      rcases hv with rfl | ⟨i, rfl, _⟩ | ⟨m, rfl, _⟩
      · exact .non 1
      · exact .int 1 i
      · exact .tup 1 _ (by simp) fun d hd => by
          simp only [List.mem_cons, List.not_mem_nil, or_false] at hd
          rcases hd with rfl | rfl
          · exact .str 0 _ (by decide +kernel)
          · exact .int 0 m
    have rpv : ∀ v ∈ rs, PV os.length v := fun v hv => by
      rcases pic.r v hv with h | ⟨i, e, h0, h1⟩
      · exact .inl h
      · exact .inr (.inr ⟨i, e, h0, h1⟩)
    have lO : Lit 4 (objsD os) := .tup 3 _ (by simp; omega) fun d hd => by
      obtain ⟨o, ho, rfl⟩ := List.mem_map.mp hd
      exact .tup 2 _ (by have := hoc o ho; omega) fun v hv => lR _ v ((pic.o o ho).2 v hv)
    have shO : SeqAt.shaped (objsD os) = true := (Dm.tup (L := 100) 2 _ (by rw [List.length_map]; omega) fun d hd => by
      obtain ⟨o, ho, rfl⟩ := List.mem_map.mp hd
      exact .tup 1 _ (by have := hoc o ho; omega) fun v hv => (((pic.o o ho).2 v hv).sv).dm).sh (by decide)
    have clO : clean (objsD os) = true := cl_objs fun o ho v hv => ((pic.o o ho).2 v hv).sv
    obtain ⟨cc, ss, ecs, hcs0, hcs1⟩ : ∃ cc ss : Int, (if os.isEmpty = true then PyData.tuple [PyData.int 0, PyData.int 0] else PyData.tuple [PyData.int (tot os + os.length), PyData.int ((os.length : Int) + 1)]) = .tuple [.int cc, .int ss] ∧ (os = [] → cc = 0 ∧ ss = 0) ∧ (os ≠ [] → cc = tot os + os.length ∧ ss = (os.length : Int) + 1) := by
      cases os with
      | nil => exact ⟨0, 0, rfl, fun _ => ⟨rfl, rfl⟩, fun z => absurd rfl z⟩
      | cons a b => exact ⟨_, _, rfl, (fun z => by cases z), fun _ => ⟨rfl, rfl⟩⟩
    have htn := tot_nn os
    have ole : os = [] ∨ os ≠ [] := by cases os <;> simp
    have esum : (os.map fun o => ((o.length : Nat) : Int)).sum = tot os := rfl
    subst hB2
    refine wSeq_step fun B2 hB2 => ?_
    refine wIfS_step fun X Y eX eY => ?_
    simp
    refine ⟨_, _, rfl, gr, go, fun _ h4 l4 => ?_, fun z => absurd (pic.chk.symm.trans z) (by decide)⟩
    simp
    refine ⟨rs, os, rfl, pic, by omega, by omega, fun c hc => by have := hoc c hc; omega, ?_⟩
    simp
    subst eY
    simp
    subst hB2
    refine wSeq_step fun B2 hB2 => ?_
    simp
    refine ⟨os, rfl, by omega, shO, clO, ?_⟩
    rw [ecs]
    simp
    subst hB2
    refine wSeq_step fun B2 hB2 => ?_
    refine wIfS_step fun X Y eX eY => ?_
    simp
    refine key (C := fun z => wCond _ (_ ∧ _ ∧ wCond _ z _) z) (z := Y _ _ _) ?_ fun hY => ?_
    · subst eY
      simp
      subst hB2
      refine wSeq_step fun B2 hB2 => ?_
      refine wIfS_step fun X Y eX eY => ?_
      simp
      refine lcL_map (emb := PyData.tuple) (fun o => .int ((o.length : Nat) : Int)) trivial (by omega) (fun o ho F hF => by simp; exact hF) ?_
      refine ⟨os.map fun o => ((o.length : Nat) : Int), by rw [List.map_map]; rfl, ?_⟩
      rw [esum, decide_eq_false (p := cc < tot os) (by rcases ole with e | e
                                                       · subst e; have := hcs0 rfl; have : tot [] = 0 := rfl; omega
                                                       · have := hcs1 e; omega), decide_eq_false (p := ss < (os.length : Int)) (by rcases ole with e | e
                                                                                                                                   · subst e; have := hcs0 rfl; show ¬ ss < 0; omega
                                                                                                                                   · have := hcs1 e; omega)]
      refine wCond.f ?_
      subst eY
      simp
      subst hB2
      refine wSeq_step fun B2 hB2 => ?_
      simp
      refine ⟨_, _, rfl, gr, go, .inl ⟨rs, os, rfl, rfl, pic, pic.chk, by omega, by omega, fun c hc => by have := hoc c hc; omega, shO, clO, fun h5 l5 => ?_⟩⟩
      simp
      subst hB2
      refine wSeq_step fun B2 hB2 => ?_
      simp
      have tk5 : TapeOk t c h5 := (g3.ok.ex fun a o e => l4 a o e).ex fun a o e => l5 a o e
      refine D_draw_run (m := 3) tk5 (by decide) (by decide) fun mo hmo h6 g6 => ?_
      subst hB2
      refine wSeq_step fun B2 hB2 => ?_
      simp
      intro x hx
      have tk6 := g6.ok
      obtain ⟨lk, nf, run, hlk⟩ := build pic (c := (if 1 < cc then cc else 1) + (mo : Int)) (s := (if 1 < ss then ss else 1) + (mo : Int)) fun ho => by
        have := hcs1 ho
        split <;> split <;> omega
      generalize (if 1 < cc then cc else 1) + (mo : Int) = cM at run ⊢
      generalize (if 1 < ss then ss else 1) + (mo : Int) = sM at run ⊢
      refine ⟨x, cM, sM, R, 3, 1, rfl, up_same, by omega, by decide, by decide, fun p h7 ep A7 G7 => ⟨rfl, ?_⟩⟩
      subst ep
      rw [hrl] at run
      have tkU : ∀ (F : List Addr) h', Gp [p.a] (up h6 p.a (.ins C [])) F h' → TapeOk t c h' := fun F h' g => tape_on tk6 fun a o ha e => g.fr a o (fun m => by
        cases List.mem_singleton.mp m
        rw [hx] at e; cases e) (by rw [up_ne (fun z => by subst z; rw [hx] at e; cases e)]; exact e)
      have plen : (progOf rs os).length ≤ 200 := prog_len (by omega) hol hoc
      have pok := prog_ok pic (by omega) fun o ho => by have := hoc o ho; omega
      rw [hrl] at pok
      subst hB2
      refine wSeq_step fun B2 hB2 => ?_
      simp
      refine lcL_run (fun ds acc h => ∃ (dn rest : List Op) (st' : PSt) (p' : Pl), progOf rs os = dn ++ rest ∧ ds = rest.map Op.d ∧ acc = dn.map (fun _ => T1 "ok") ∧ p'.a = p.a ∧ RunOk st' rest (mkS cM sM (rs.map shv) .none .none .none lk nf) ∧ Wf st' ∧ Shp st' R 3 ∧ st'.regs.length = 1 ∧ st'.count ≤ dn.length ∧ PlainAt C st' p' h ∧ Gp [p.a] (up h6 p.a (.ins C [])) (p'.G st') h) ?_ ?_
        ⟨[], progOf rs os, _, p, rfl, rfl, rfl, rfl, run, wf0 (by omega) (by decide) (by decide), st0_shp, rfl, Nat.le_refl _, A7, G7⟩
      · rintro d ds acc h8 ⟨dn, rest, st', p', e, ed, rfl, ea, ru, W', S', hr1, hct, A', G'⟩
        cases rest with
        | nil => cases ed
        | cons op rest =>
          obtain ⟨rfl, rfl⟩ := List.cons.inj ed
          have hdn := congrArg List.length e
          rw [List.length_append] at hdn
          refine ⟨trivial, by rw [List.length_map]; omega, fun F2 hF3 => ?_⟩
          have a' := A'.a
          rw [ea] at a'
          simp [a']
          obtain ⟨e1, r1⟩ : (step st' 0 op).1 = T1 "ok" ∧ RunOk (step st' 0 op).2 rest (mkS cM sM (rs.map shv) .none .none .none lk nf) := by
            cases ru with
            | cons e1 r1 => exact ⟨e1, r1⟩
          have hop := pok op (by rw [e]; simp)
          have hrow : (row st' 0).length = 3 := S'.g _ (row_mem (by omega))
          refine ⟨st', p', 0, op, by rw [ea]; rfl, A', W', by omega, by rw [S'.r, hrow]; exact hop, by omega, fun p2 h9 ea2 A2 g2 => ?_⟩
          rw [e1]
          have ad := step_wf W' (t := 0) (by omega) op hop.sm
          have sp := step_shp S' (t := 0) op
          have := hF3 _ h9 ⟨dn ++ [op], rest, _, p2, by rw [e]; simp, rfl, rfl, by rw [ea2, ea], r1, ad.1, sp.1, by rw [sp.2.1]; exact hr1, by have := ad.2.1; rw [List.length_append]; show _ ≤ dn.length + 1; omega, A2, G'.trans g2⟩
          simpa using this
      · rintro acc h8 ⟨dn, rest, st', p', e, ed, rfl, ea, ru, W', S', hr1, hct, A', G'⟩
        have er9 : rest = [] := by cases rest with | nil => rfl | cons a b => cases ed
        subst er9
        rw [List.append_nil] at e
        cases ru
        refine ⟨trivial, ?_⟩
        subst hB2
        refine wSeq_step fun B2 hB2 => ?_
        refine wIfS_step fun X Y eX eY => ?_
        simp
        refine lcL_map (emb := fun (_ : Op) => T1 "ok") (fun _ => .bool true) trivial (by have := congrArg List.length e; omega) (fun op hop F2 hF3 => ?_) ?_
        · simp
          exact hF3
        have eb : boolL (dn.map fun _ => PyData.bool true) = some (dn.map fun _ => true) := boolL_mapF dn fun _ => true
        refine ⟨_, eb, ?_⟩
        have ea2 : ((dn.map fun _ => true).all id) = true := by simp
        rw [ea2]
        refine wCond.t ?_
        subst eY
        simp
        subst hB2
        refine wSeq_step fun B2 hB2 => ?_
        refine wIfS_step fun X Y eX eY => ?_
        have a8 := A'.a
        rw [ea] at a8
        simp [a8]
        refine ⟨_, p', _, by rw [ea], A', W'.clo, fun h9 l9 => ?_⟩
        rw [fin_pict pic hlk]
        have l5 : Lit 5 (PyData.tuple [PyData.tuple rs, PyData.tuple [PyData.tuple [PyData.none, PyData.none, PyData.none]], objsD os]) := .tup 4 _ (by simp) fun d hd => by
          simp only [List.mem_cons, List.not_mem_nil, or_false] at hd
          rcases hd with rfl | rfl | rfl
          · exact .tup 3 _ (by omega) fun v hv => by
              rcases pic.r v hv with rfl | ⟨m, rfl, _⟩
              · exact .non 2
              · exact .tup 2 _ (by simp) fun d hd => by
                  simp only [List.mem_cons, List.not_mem_nil, or_false] at hd
                  rcases hd with rfl | rfl
                  · exact .str 1 _ (by decide +kernel)
                  · exact .int 1 m
          · exact .tup 3 _ (by simp) fun v hv => by
              cases List.mem_singleton.mp hv
              exact .tup 2 _ (by simp) fun d hd => by
                simp only [List.mem_cons, List.not_mem_nil, or_false, or_self] at hd
                rw [hd]; exact .non 1
          · exact lO
        refine ⟨_, _, rfl, l5, l5, ?_⟩
        rw [eqB_t]
        simp
        subst eY
        simp
        subst hB2
        refine wSeq_step fun B2 hB2 => ?_
        refine wIfS_step fun X Y eX eY => ?_
        have A9 := A'.ex l9
        have a9 := A9.a
        rw [ea] at a9
        simp [a9]
        refine ⟨_, p', _, by rw [ea], A9, W'.clo, fun h10 l10 => ?_⟩
        rw [fin_used pic hlk]
        refine lcL_map (emb := PyData.tuple) (fun o => .int ((o.length : Nat) : Int)) trivial (by omega) (fun o ho F hF => by simp; exact hF) ?_
        refine ⟨os.map fun o => ((o.length : Nat) : Int), by rw [List.map_map]; rfl, ?_⟩
        rw [esum]
        have A10 := A9.ex l10
        have a10 := A10.a
        rw [ea] at a10
        simp [a10]
        refine ⟨_, p', _, by rw [ea], A10, W'.clo, fun L h11 l11 hL => ?_⟩
        rw [fin_len pic hlk] at hL
        simp [hL]
        subst eY
        simp
        subst hB2
        refine wIfS_step fun X Y eX eY => ?_
        simp
        have tk11 : TapeOk t c h11 := (((tkU _ _ G').ex fun a o e => l9 a o e).ex fun a o e => l10 a o e).ex fun a o e => l11 a o e
        refine ⟨t, c, rs, os, rfl, tk11, pic, by omega, by omega, hoc5, fun h12 g12 => ?_⟩
        simp
        subst eY
        simp
        exact hF2 _ _ _ _ _ _ _ _ _ _ _ _ _ _ _ g12.ok
    · refine wCond.p (fun c0 => ?_) fun _ => hY
      obtain ⟨rfl, rfl⟩ := hcs0 (by simpa using c0)
      exact ⟨by decide +kernel, by decide +kernel, wCond.t hY⟩
  · rintro ρ h ⟨n, o2, o3, o4, o5, o6, o7, o8, o9, o10, o11, o12, o13, o14, o15, ed, rfl, tk⟩
    refine ⟨trivial, ?_⟩
    subst hB
    simp
    exact hk _
end
end K37
set_option Elab.async false
set_option linter.all false
set_option maxRecDepth 100000
set_option maxHeartbeats 8000000
namespace K37
open PySem PySem.Spec PyProof.Rows L2 Evl Pd Wl
section
variable {P : Program} {w : World} {K : PySem.W.Frag} {mg : Str → Option Value} {base : Heap}
theorem all_mk {l : PySem.W.OpenLaw} {h : Heap} {fa : Addr} (X : K.In h) (G : h.Ns mainGlobals mg) (hfa : mg "law" = some (.ref fa))
    {X0 : Addr} (gX0 : PySem.W.nsIn K mainGlobals "BadValue" = some (some (.ref X0))) (xX0 : PySem.W.excIn K X0 [.type "ValueError", .type "Exception", .type "BaseException", .type "object"] "ValueError.__new__" = true) (kX0 : PySem.W.keepIn K (.ref X0) = true) (eX0 : PySem.W.subIn K (.ref X0) (.type "BaseException") = some true) (tX0 : PySem.W.typeIn K (.ref X0) = some (.type "type")) (isX0 : PySem.W.isClsIn K X0 = true) (sfX0 : PySem.W.subIn K (.ref X0) (.ref X0) = some true)
    {C : Addr} (gC : PySem.W.nsIn K mainGlobals "Plain" = some (some (.ref C))) (pgC : PySem.W.plainGet K C Str.empty = true) (hdC : PySem.W.hasDictIn K C = true) (poC : PySem.W.plainOver K C = true) (saC : PySem.W.findIn K (.ref C) "__setattr__" = some (some (.builtin "object.__setattr__"))) (mkC : PySem.W.makesIn K C = true) (kpC : PySem.W.keepIn K (.ref C) = true)
    (nC__cells : PySem.W.findIn K (.ref C) "_cells" = some none) (nC__slots : PySem.W.findIn K (.ref C) "_slots" = some none) (nC__roots : PySem.W.findIn K (.ref C) "_roots" = some none) (nC__registers : PySem.W.findIn K (.ref C) "_registers" = some none) (nC__objects : PySem.W.findIn K (.ref C) "_objects" = some none) (nC__count : PySem.W.findIn K (.ref C) "_count" = some none)
    {fC_init : Addr} {odC_init anC_init : Option Addr} {slC_init : Array (Option Value)} {ocC_init kVC_init dcC_init pmC_init cdC_init ctC_init : Value}
    (aC_init : PySem.W.findIn K (.ref C) "__init__" = some (some (.ref fC_init))) (lC_init : K.lookup fC_init = some ⟨ocC_init, odC_init, .func (PySem.W.fnOf "__init__" "Plain.__init__" (defArgs st_Plain_init) (defBody st_Plain_init) (defScope st_Plain_init) .none kVC_init dcC_init pmC_init anC_init cdC_init ctC_init), slC_init⟩) (cC_init : PySem.W.codeIn K cdC_init "Plain.__init__" = true) (kC_init : PySem.W.keepIn K (.ref fC_init) = true)
    (iC_init : PySem.W.isFn K (.ref fC_init) = true)
    {fC_held : Addr} {odC_held anC_held : Option Addr} {slC_held : Array (Option Value)} {ocC_held kVC_held dcC_held pmC_held cdC_held ctC_held : Value}
    (aC_held : PySem.W.findIn K (.ref C) "_held" = some (some (.ref fC_held))) (lC_held : K.lookup fC_held = some ⟨ocC_held, odC_held, .func (PySem.W.fnOf "_held" "Plain._held" (defArgs st_Plain_held) (defBody st_Plain_held) (defScope st_Plain_held) .none kVC_held dcC_held pmC_held anC_held cdC_held ctC_held), slC_held⟩) (cC_held : PySem.W.codeIn K cdC_held "Plain._held" = true) (kC_held : PySem.W.keepIn K (.ref fC_held) = true)
    (iC_held : PySem.W.isFn K (.ref fC_held) = true)
    {fC_met : Addr} {odC_met anC_met : Option Addr} {slC_met : Array (Option Value)} {ocC_met kVC_met dcC_met pmC_met cdC_met ctC_met : Value}
    (aC_met : PySem.W.findIn K (.ref C) "_met" = some (some (.ref fC_met))) (lC_met : K.lookup fC_met = some ⟨ocC_met, odC_met, .func (PySem.W.fnOf "_met" "Plain._met" (defArgs st_Plain_met) (defBody st_Plain_met) (defScope st_Plain_met) .none kVC_met dcC_met pmC_met anC_met cdC_met ctC_met), slC_met⟩) (cC_met : PySem.W.codeIn K cdC_met "Plain._met" = true) (kC_met : PySem.W.keepIn K (.ref fC_met) = true)
    (iC_met : PySem.W.isFn K (.ref fC_met) = true)
    {fC_reachable : Addr} {odC_reachable anC_reachable : Option Addr} {slC_reachable : Array (Option Value)} {ocC_reachable kVC_reachable dcC_reachable pmC_reachable cdC_reachable ctC_reachable : Value}
    (aC_reachable : PySem.W.findIn K (.ref C) "reachable" = some (some (.ref fC_reachable))) (lC_reachable : K.lookup fC_reachable = some ⟨ocC_reachable, odC_reachable, .func (PySem.W.fnOf "reachable" "Plain.reachable" (defArgs st_Plain_reachable) (defBody st_Plain_reachable) (defScope st_Plain_reachable) .none kVC_reachable dcC_reachable pmC_reachable anC_reachable cdC_reachable ctC_reachable), slC_reachable⟩) (cC_reachable : PySem.W.codeIn K cdC_reachable "Plain.reachable" = true) (kC_reachable : PySem.W.keepIn K (.ref fC_reachable) = true)
    (iC_reachable : PySem.W.isFn K (.ref fC_reachable) = true)
    {fC_used : Addr} {odC_used anC_used : Option Addr} {slC_used : Array (Option Value)} {ocC_used kVC_used dcC_used pmC_used cdC_used ctC_used : Value}
    (aC_used : PySem.W.findIn K (.ref C) "used" = some (some (.ref fC_used))) (lC_used : K.lookup fC_used = some ⟨ocC_used, odC_used, .func (PySem.W.fnOf "used" "Plain.used" (defArgs st_Plain_used) (defBody st_Plain_used) (defScope st_Plain_used) .none kVC_used dcC_used pmC_used anC_used cdC_used ctC_used), slC_used⟩) (cC_used : PySem.W.codeIn K cdC_used "Plain.used" = true) (kC_used : PySem.W.keepIn K (.ref fC_used) = true)
    (iC_used : PySem.W.isFn K (.ref fC_used) = true)
    {fC_fits : Addr} {odC_fits anC_fits : Option Addr} {slC_fits : Array (Option Value)} {ocC_fits kVC_fits dcC_fits pmC_fits cdC_fits ctC_fits : Value}
    (aC_fits : PySem.W.findIn K (.ref C) "fits" = some (some (.ref fC_fits))) (lC_fits : K.lookup fC_fits = some ⟨ocC_fits, odC_fits, .func (PySem.W.fnOf "fits" "Plain.fits" (defArgs st_Plain_fits) (defBody st_Plain_fits) (defScope st_Plain_fits) .none kVC_fits dcC_fits pmC_fits anC_fits cdC_fits ctC_fits), slC_fits⟩) (cC_fits : PySem.W.codeIn K cdC_fits "Plain.fits" = true) (kC_fits : PySem.W.keepIn K (.ref fC_fits) = true)
    (iC_fits : PySem.W.isFn K (.ref fC_fits) = true)
    {fC_picture : Addr} {odC_picture anC_picture : Option Addr} {slC_picture : Array (Option Value)} {ocC_picture kVC_picture dcC_picture pmC_picture cdC_picture ctC_picture : Value}
    (aC_picture : PySem.W.findIn K (.ref C) "picture" = some (some (.ref fC_picture))) (lC_picture : K.lookup fC_picture = some ⟨ocC_picture, odC_picture, .func (PySem.W.fnOf "picture" "Plain.picture" (defArgs st_Plain_picture) (defBody st_Plain_picture) (defScope st_Plain_picture) .none kVC_picture dcC_picture pmC_picture anC_picture cdC_picture ctC_picture), slC_picture⟩) (cC_picture : PySem.W.codeIn K cdC_picture "Plain.picture" = true) (kC_picture : PySem.W.keepIn K (.ref fC_picture) = true)
    (iC_picture : PySem.W.isFn K (.ref fC_picture) = true)
    {fC_named : Addr} {odC_named anC_named : Option Addr} {slC_named : Array (Option Value)} {ocC_named kVC_named dcC_named pmC_named cdC_named ctC_named : Value}
    (aC_named : PySem.W.findIn K (.ref C) "_named" = some (some (.ref fC_named))) (lC_named : K.lookup fC_named = some ⟨ocC_named, odC_named, .func (PySem.W.fnOf "_named" "Plain._named" (defArgs st_Plain_named) (defBody st_Plain_named) (defScope st_Plain_named) .none kVC_named dcC_named pmC_named anC_named cdC_named ctC_named), slC_named⟩) (cC_named : PySem.W.codeIn K cdC_named "Plain._named" = true) (kC_named : PySem.W.keepIn K (.ref fC_named) = true)
    (iC_named : PySem.W.isFn K (.ref fC_named) = true)
    {fC_forget : Addr} {odC_forget anC_forget : Option Addr} {slC_forget : Array (Option Value)} {ocC_forget kVC_forget dcC_forget pmC_forget cdC_forget ctC_forget : Value}
    (aC_forget : PySem.W.findIn K (.ref C) "_forget" = some (some (.ref fC_forget))) (lC_forget : K.lookup fC_forget = some ⟨ocC_forget, odC_forget, .func (PySem.W.fnOf "_forget" "Plain._forget" (defArgs st_Plain_forget) (defBody st_Plain_forget) (defScope st_Plain_forget) .none kVC_forget dcC_forget pmC_forget anC_forget cdC_forget ctC_forget), slC_forget⟩) (cC_forget : PySem.W.codeIn K cdC_forget "Plain._forget" = true) (kC_forget : PySem.W.keepIn K (.ref fC_forget) = true)
    (iC_forget : PySem.W.isFn K (.ref fC_forget) = true)
    {fC_put : Addr} {odC_put anC_put : Option Addr} {slC_put : Array (Option Value)} {ocC_put kVC_put dcC_put pmC_put cdC_put ctC_put : Value}
    (aC_put : PySem.W.findIn K (.ref C) "_put" = some (some (.ref fC_put))) (lC_put : K.lookup fC_put = some ⟨ocC_put, odC_put, .func (PySem.W.fnOf "_put" "Plain._put" (defArgs st_Plain_put) (defBody st_Plain_put) (defScope st_Plain_put) .none kVC_put dcC_put pmC_put anC_put cdC_put ctC_put), slC_put⟩) (cC_put : PySem.W.codeIn K cdC_put "Plain._put" = true) (kC_put : PySem.W.keepIn K (.ref fC_put) = true)
    (iC_put : PySem.W.isFn K (.ref fC_put) = true)
    {fC_moved : Addr} {odC_moved anC_moved : Option Addr} {slC_moved : Array (Option Value)} {ocC_moved kVC_moved dcC_moved pmC_moved cdC_moved ctC_moved : Value}
    (aC_moved : PySem.W.findIn K (.ref C) "_moved" = some (some (.ref fC_moved))) (lC_moved : K.lookup fC_moved = some ⟨ocC_moved, odC_moved, .func (PySem.W.fnOf "_moved" "Plain._moved" (defArgs st_Plain_moved) (defBody st_Plain_moved) (defScope st_Plain_moved) .none kVC_moved dcC_moved pmC_moved anC_moved cdC_moved ctC_moved), slC_moved⟩) (cC_moved : PySem.W.codeIn K cdC_moved "Plain._moved" = true) (kC_moved : PySem.W.keepIn K (.ref fC_moved) = true)
    (iC_moved : PySem.W.isFn K (.ref fC_moved) = true)
    {fC_touched : Addr} {odC_touched anC_touched : Option Addr} {slC_touched : Array (Option Value)} {ocC_touched kVC_touched dcC_touched pmC_touched cdC_touched ctC_touched : Value}
    (aC_touched : PySem.W.findIn K (.ref C) "_touched" = some (some (.ref fC_touched))) (lC_touched : K.lookup fC_touched = some ⟨ocC_touched, odC_touched, .func (PySem.W.fnOf "_touched" "Plain._touched" (defArgs st_Plain_touched) (defBody st_Plain_touched) (defScope st_Plain_touched) .none kVC_touched dcC_touched pmC_touched anC_touched cdC_touched ctC_touched), slC_touched⟩) (cC_touched : PySem.W.codeIn K cdC_touched "Plain._touched" = true) (kC_touched : PySem.W.keepIn K (.ref fC_touched) = true)
    (iC_touched : PySem.W.isFn K (.ref fC_touched) = true)
    {fC_on_object : Addr} {odC_on_object anC_on_object : Option Addr} {slC_on_object : Array (Option Value)} {ocC_on_object kVC_on_object dcC_on_object pmC_on_object cdC_on_object ctC_on_object : Value}
    (aC_on_object : PySem.W.findIn K (.ref C) "_on_object" = some (some (.ref fC_on_object))) (lC_on_object : K.lookup fC_on_object = some ⟨ocC_on_object, odC_on_object, .func (PySem.W.fnOf "_on_object" "Plain._on_object" (defArgs st_Plain_on_object) (defBody st_Plain_on_object) (defScope st_Plain_on_object) .none kVC_on_object dcC_on_object pmC_on_object anC_on_object cdC_on_object ctC_on_object), slC_on_object⟩) (cC_on_object : PySem.W.codeIn K cdC_on_object "Plain._on_object" = true) (kC_on_object : PySem.W.keepIn K (.ref fC_on_object) = true)
    (iC_on_object : PySem.W.isFn K (.ref fC_on_object) = true)
    {fC_do : Addr} {odC_do anC_do : Option Addr} {slC_do : Array (Option Value)} {ocC_do kVC_do dcC_do pmC_do cdC_do ctC_do : Value}
    (aC_do : PySem.W.findIn K (.ref C) "do" = some (some (.ref fC_do))) (lC_do : K.lookup fC_do = some ⟨ocC_do, odC_do, .func (PySem.W.fnOf "do" "Plain.do" (defArgs st_Plain_do) (defBody st_Plain_do) (defScope st_Plain_do) .none kVC_do dcC_do pmC_do anC_do cdC_do ctC_do), slC_do⟩) (cC_do : PySem.W.codeIn K cdC_do "Plain.do" = true) (kC_do : PySem.W.keepIn K (.ref fC_do) = true)
    (iC_do : PySem.W.isFn K (.ref fC_do) = true)
    {f1 : Addr} {od1 an1 : Option Addr} {sl1 : Array (Option Value)} {oc1 kV1 dc1 pm1 cd1 ct1 : Value}
    (a1 : PySem.W.nsIn K mainGlobals "is_integer" = some (some (.ref f1))) (l1 : K.lookup f1 = some ⟨oc1, od1, .func (PySem.W.fnOf "is_integer" "is_integer" (defArgs st_is_integer) (defBody st_is_integer) (defScope st_is_integer) .none kV1 dc1 pm1 an1 cd1 ct1), sl1⟩) (c1 : PySem.W.codeIn K cd1 "is_integer" = true) (k1 : PySem.W.keepIn K (.ref f1) = true)
    {f2 : Addr} {od2 an2 : Option Addr} {sl2 : Array (Option Value)} {oc2 kV2 dc2 pm2 cd2 ct2 : Value}
    (a2 : PySem.W.nsIn K mainGlobals "is_count" = some (some (.ref f2))) (l2 : K.lookup f2 = some ⟨oc2, od2, .func (PySem.W.fnOf "is_count" "is_count" (defArgs st_is_count) (defBody st_is_count) (defScope st_is_count) .none kV2 dc2 pm2 an2 cd2 ct2), sl2⟩) (c2 : PySem.W.codeIn K cd2 "is_count" = true) (k2 : PySem.W.keepIn K (.ref f2) = true)
    {f3 : Addr} {od3 an3 : Option Addr} {sl3 : Array (Option Value)} {oc3 kV3 dc3 pm3 cd3 ct3 : Value}
    (a3 : PySem.W.nsIn K mainGlobals "is_part" = some (some (.ref f3))) (l3 : K.lookup f3 = some ⟨oc3, od3, .func (PySem.W.fnOf "is_part" "is_part" (defArgs st_is_part) (defBody st_is_part) (defScope st_is_part) .none kV3 dc3 pm3 an3 cd3 ct3), sl3⟩) (c3 : PySem.W.codeIn K cd3 "is_part" = true) (k3 : PySem.W.keepIn K (.ref f3) = true)
    {f4 : Addr} {od4 an4 : Option Addr} {sl4 : Array (Option Value)} {oc4 kV4 dc4 pm4 cd4 ct4 : Value}
    (a4 : PySem.W.nsIn K mainGlobals "is_operation" = some (some (.ref f4))) (l4 : K.lookup f4 = some ⟨oc4, od4, .func (PySem.W.fnOf "is_operation" "is_operation" (defArgs st_is_operation) (defBody st_is_operation) (defScope st_is_operation) .none kV4 dc4 pm4 an4 cd4 ct4), sl4⟩) (c4 : PySem.W.codeIn K cd4 "is_operation" = true) (k4 : PySem.W.keepIn K (.ref f4) = true)
    {f5 : Addr} {od5 an5 : Option Addr} {sl5 : Array (Option Value)} {oc5 kV5 dc5 pm5 cd5 ct5 : Value}
    (a5 : PySem.W.nsIn K mainGlobals "is_shown" = some (some (.ref f5))) (l5 : K.lookup f5 = some ⟨oc5, od5, .func (PySem.W.fnOf "is_shown" "is_shown" (defArgs st_is_shown) (defBody st_is_shown) (defScope st_is_shown) .none kV5 dc5 pm5 an5 cd5 ct5), sl5⟩) (c5 : PySem.W.codeIn K cd5 "is_shown" = true) (k5 : PySem.W.keepIn K (.ref f5) = true)
    {f6 : Addr} {od6 an6 : Option Addr} {sl6 : Array (Option Value)} {oc6 kV6 dc6 pm6 cd6 ct6 : Value}
    (a6 : PySem.W.nsIn K mainGlobals "met_from" = some (some (.ref f6))) (l6 : K.lookup f6 = some ⟨oc6, od6, .func (PySem.W.fnOf "met_from" "met_from" (defArgs st_met_from) (defBody st_met_from) (defScope st_met_from) .none kV6 dc6 pm6 an6 cd6 ct6), sl6⟩) (c6 : PySem.W.codeIn K cd6 "met_from" = true) (k6 : PySem.W.keepIn K (.ref f6) = true)
    {f7 : Addr} {od7 an7 : Option Addr} {sl7 : Array (Option Value)} {oc7 kV7 dc7 pm7 cd7 ct7 : Value}
    (a7 : PySem.W.nsIn K mainGlobals "check_picture" = some (some (.ref f7))) (l7 : K.lookup f7 = some ⟨oc7, od7, .func (PySem.W.fnOf "check_picture" "check_picture" (defArgs st_check_picture) (defBody st_check_picture) (defScope st_check_picture) .none kV7 dc7 pm7 an7 cd7 ct7), sl7⟩) (c7 : PySem.W.codeIn K cd7 "check_picture" = true) (k7 : PySem.W.keepIn K (.ref f7) = true)
    {f8 : Addr} {od8 an8 : Option Addr} {sl8 : Array (Option Value)} {oc8 kV8 dc8 pm8 cd8 ct8 : Value}
    (a8 : PySem.W.nsIn K mainGlobals "filling_of" = some (some (.ref f8))) (l8 : K.lookup f8 = some ⟨oc8, od8, .func (PySem.W.fnOf "filling_of" "filling_of" (defArgs st_filling_of) (defBody st_filling_of) (defScope st_filling_of) .none kV8 dc8 pm8 an8 cd8 ct8), sl8⟩) (c8 : PySem.W.codeIn K cd8 "filling_of" = true) (k8 : PySem.W.keepIn K (.ref f8) = true)
    {f9 : Addr} {od9 an9 : Option Addr} {sl9 : Array (Option Value)} {oc9 kV9 dc9 pm9 cd9 ct9 : Value}
    (a9 : PySem.W.nsIn K mainGlobals "builder_of" = some (some (.ref f9))) (l9 : K.lookup f9 = some ⟨oc9, od9, .func (PySem.W.fnOf "builder_of" "builder_of" (defArgs st_builder_of) (defBody st_builder_of) (defScope st_builder_of) .none kV9 dc9 pm9 an9 cd9 ct9), sl9⟩) (c9 : PySem.W.codeIn K cd9 "builder_of" = true) (k9 : PySem.W.keepIn K (.ref f9) = true)
    {f10 : Addr} {od10 an10 : Option Addr} {sl10 : Array (Option Value)} {oc10 kV10 dc10 pm10 cd10 ct10 : Value}
    (a10 : PySem.W.nsIn K mainGlobals "room_of" = some (some (.ref f10))) (l10 : K.lookup f10 = some ⟨oc10, od10, .func (PySem.W.fnOf "room_of" "room_of" (defArgs st_room_of) (defBody st_room_of) (defScope st_room_of) .none kV10 dc10 pm10 an10 cd10 ct10), sl10⟩) (c10 : PySem.W.codeIn K cd10 "room_of" = true) (k10 : PySem.W.keepIn K (.ref f10) = true)
    {f11 : Addr} {od11 an11 : Option Addr} {sl11 : Array (Option Value)} {oc11 kV11 dc11 pm11 cd11 ct11 : Value}
    (a11 : PySem.W.nsIn K mainGlobals "_law_tape" = some (some (.ref f11))) (l11 : K.lookup f11 = some ⟨oc11, od11, .func (PySem.W.fnOf "_law_tape" "_law_tape" (defArgs st__law_tape) (defBody st__law_tape) (defScope st__law_tape) .none kV11 dc11 pm11 an11 cd11 ct11), sl11⟩) (c11 : PySem.W.codeIn K cd11 "_law_tape" = true) (k11 : PySem.W.keepIn K (.ref f11) = true)
    {f12 : Addr} {od12 an12 : Option Addr} {sl12 : Array (Option Value)} {oc12 kV12 dc12 pm12 cd12 ct12 : Value}
    (a12 : PySem.W.nsIn K mainGlobals "_law_draw" = some (some (.ref f12))) (l12 : K.lookup f12 = some ⟨oc12, od12, .func (PySem.W.fnOf "_law_draw" "_law_draw" (defArgs st__law_draw) (defBody st__law_draw) (defScope st__law_draw) .none kV12 dc12 pm12 an12 cd12 ct12), sl12⟩) (c12 : PySem.W.codeIn K cd12 "_law_draw" = true) (k12 : PySem.W.keepIn K (.ref f12) = true)
    {f13 : Addr} {od13 an13 : Option Addr} {sl13 : Array (Option Value)} {oc13 kV13 dc13 pm13 cd13 ct13 : Value}
    (a13 : PySem.W.nsIn K mainGlobals "_law_pick" = some (some (.ref f13))) (l13 : K.lookup f13 = some ⟨oc13, od13, .func (PySem.W.fnOf "_law_pick" "_law_pick" (defArgs st__law_pick) (defBody st__law_pick) (defScope st__law_pick) .none kV13 dc13 pm13 an13 cd13 ct13), sl13⟩) (c13 : PySem.W.codeIn K cd13 "_law_pick" = true) (k13 : PySem.W.keepIn K (.ref f13) = true)
    {f14 : Addr} {od14 an14 : Option Addr} {sl14 : Array (Option Value)} {oc14 kV14 dc14 pm14 cd14 ct14 : Value}
    (a14 : PySem.W.nsIn K mainGlobals "_law_first" = some (some (.ref f14))) (l14 : K.lookup f14 = some ⟨oc14, od14, .func (PySem.W.fnOf "_law_first" "_law_first" (defArgs st__law_first) (defBody st__law_first) (defScope st__law_first) .none kV14 dc14 pm14 an14 cd14 ct14), sl14⟩) (c14 : PySem.W.codeIn K cd14 "_law_first" = true) (k14 : PySem.W.keepIn K (.ref f14) = true)
    {f15 : Addr} {od15 an15 : Option Addr} {sl15 : Array (Option Value)} {oc15 kV15 dc15 pm15 cd15 ct15 : Value}
    (a15 : PySem.W.nsIn K mainGlobals "_law_renamed" = some (some (.ref f15))) (l15 : K.lookup f15 = some ⟨oc15, od15, .func (PySem.W.fnOf "_law_renamed" "_law_renamed" (defArgs st__law_renamed) (defBody st__law_renamed) (defScope st__law_renamed) .none kV15 dc15 pm15 an15 cd15 ct15), sl15⟩) (c15 : PySem.W.codeIn K cd15 "_law_renamed" = true) (k15 : PySem.W.keepIn K (.ref f15) = true)
    {f16 : Addr} {od16 an16 : Option Addr} {sl16 : Array (Option Value)} {oc16 kV16 dc16 pm16 cd16 ct16 : Value}
    (a16 : PySem.W.nsIn K mainGlobals "_law_heap" = some (some (.ref f16))) (l16 : K.lookup f16 = some ⟨oc16, od16, .func (PySem.W.fnOf "_law_heap" "_law_heap" (defArgs st__law_heap) (defBody st__law_heap) (defScope st__law_heap) .none kV16 dc16 pm16 an16 cd16 ct16), sl16⟩) (c16 : PySem.W.codeIn K cd16 "_law_heap" = true) (k16 : PySem.W.keepIn K (.ref f16) = true)
    {f17 : Addr} {od17 an17 : Option Addr} {sl17 : Array (Option Value)} {oc17 kV17 dc17 pm17 cd17 ct17 : Value}
    (a17 : PySem.W.nsIn K mainGlobals "_law_same" = some (some (.ref f17))) (l17 : K.lookup f17 = some ⟨oc17, od17, .func (PySem.W.fnOf "_law_same" "_law_same" (defArgs st__law_same) (defBody st__law_same) (defScope st__law_same) .none kV17 dc17 pm17 an17 cd17 ct17), sl17⟩) (c17 : PySem.W.codeIn K cd17 "_law_same" = true) (k17 : PySem.W.keepIn K (.ref f17) = true)
    {f18 : Addr} {od18 an18 : Option Addr} {sl18 : Array (Option Value)} {oc18 kV18 dc18 pm18 cd18 ct18 : Value}
    (a18 : PySem.W.nsIn K mainGlobals "_law_no_picture" = some (some (.ref f18))) (l18 : K.lookup f18 = some ⟨oc18, od18, .func (PySem.W.fnOf "_law_no_picture" "_law_no_picture" (defArgs st__law_no_picture) (defBody st__law_no_picture) (defScope st__law_no_picture) .none kV18 dc18 pm18 an18 cd18 ct18), sl18⟩) (c18 : PySem.W.codeIn K cd18 "_law_no_picture" = true) (k18 : PySem.W.keepIn K (.ref f18) = true)
    {f19 : Addr} {od19 an19 : Option Addr} {sl19 : Array (Option Value)} {oc19 kV19 dc19 pm19 cd19 ct19 : Value}
    (a19 : PySem.W.nsIn K mainGlobals "_law_refused" = some (some (.ref f19))) (l19 : K.lookup f19 = some ⟨oc19, od19, .func (PySem.W.fnOf "_law_refused" "_law_refused" (defArgs st__law_refused) (defBody st__law_refused) (defScope st__law_refused) .none kV19 dc19 pm19 an19 cd19 ct19), sl19⟩) (c19 : PySem.W.codeIn K cd19 "_law_refused" = true) (k19 : PySem.W.keepIn K (.ref f19) = true)
    {f20 : Addr} {od20 an20 : Option Addr} {sl20 : Array (Option Value)} {oc20 kV20 dc20 pm20 cd20 ct20 : Value}
    (a20 : PySem.W.nsIn K mainGlobals "_law_is_picture" = some (some (.ref f20))) (l20 : K.lookup f20 = some ⟨oc20, od20, .func (PySem.W.fnOf "_law_is_picture" "_law_is_picture" (defArgs st__law_is_picture) (defBody st__law_is_picture) (defScope st__law_is_picture) .none kV20 dc20 pm20 an20 cd20 ct20), sl20⟩) (c20 : PySem.W.codeIn K cd20 "_law_is_picture" = true) (k20 : PySem.W.keepIn K (.ref f20) = true)
    {f21 : Addr} {od21 an21 : Option Addr} {sl21 : Array (Option Value)} {oc21 kV21 dc21 pm21 cd21 ct21 : Value}
    (a21 : PySem.W.nsIn K mainGlobals "law" = some (some (.ref f21))) (l21 : K.lookup f21 = some ⟨oc21, od21, .func (PySem.W.fnOf "law" "law" (defArgs st_law) (defBody st_law) (defScope st_law) .none kV21 dc21 pm21 an21 cd21 ct21), sl21⟩) (c21 : PySem.W.codeIn K cd21 "law" = true) (k21 : PySem.W.keepIn K (.ref f21) = true)
    (z_isinstance : PySem.W.nsIn K mainGlobals "isinstance" = some none)
    (z_len : PySem.W.nsIn K mainGlobals "len" = some none)
    (z_all : PySem.W.nsIn K mainGlobals "all" = some none)
    (z_any : PySem.W.nsIn K mainGlobals "any" = some none)
    (z_zip : PySem.W.nsIn K mainGlobals "zip" = some none)
    (z_tuple : PySem.W.nsIn K mainGlobals "tuple" = some none)
    (z_str : PySem.W.nsIn K mainGlobals "str" = some none)
    (z_int : PySem.W.nsIn K mainGlobals "int" = some none)
    (z_bool : PySem.W.nsIn K mainGlobals "bool" = some none)
    (z_abs : PySem.W.nsIn K mainGlobals "abs" = some none)
    (z_list : PySem.W.nsIn K mainGlobals "list" = some none)
    (z_range : PySem.W.nsIn K mainGlobals "range" = some none)
    (z_sum : PySem.W.nsIn K mainGlobals "sum" = some none)
    (z_set : PySem.W.nsIn K mainGlobals "set" = some none)
    (z_enumerate : PySem.W.nsIn K mainGlobals "enumerate" = some none)
    (z_sorted : PySem.W.nsIn K mainGlobals "sorted" = some none)
    (z_max : PySem.W.nsIn K mainGlobals "max" = some none)
    {t_LIMIT : Tok} (v_LIMIT : PySem.W.nsIn K mainGlobals "LIMIT" = some (some (.int 1000000000000000000 t_LIMIT)))
    {t_MOST_INDEX : Tok} (v_MOST_INDEX : PySem.W.nsIn K mainGlobals "MOST_INDEX" = some (some (.int 1000000000 t_MOST_INDEX)))
    {t_WORD_plain : Tok} (v_WORD_plain : PySem.W.nsIn K mainGlobals "WORD_plain" = some (some (.str "object" t_WORD_plain)))
    {t_WORD_walks : Tok} (v_WORD_walks : PySem.W.nsIn K mainGlobals "WORD_walks" = some (some (.str "object" t_WORD_walks)))
    {t_SPINE : Tok} (v_SPINE : PySem.W.nsIn K mainGlobals "SPINE" = some (some (.int 0 t_SPINE)))
    {t_ONE : Tok} (v_ONE : PySem.W.nsIn K mainGlobals "ONE" = some (some (.int 1 t_ONE)))
    {t_OTHER : Tok} (v_OTHER : PySem.W.nsIn K mainGlobals "OTHER" = some (some (.int 2 t_OTHER)))
    {t_REGISTERS : Tok} (v_REGISTERS : PySem.W.nsIn K mainGlobals "REGISTERS" = some (some (.int 3 t_REGISTERS)))
    {d_FORMS : Addr} {es_FORMS : Array DictEntry} {m_FORMS : Nat} (g_FORMS : PySem.W.nsIn K mainGlobals "FORMS" = some (some (.ref d_FORMS))) (l_FORMS : K.lookup d_FORMS = some ⟨.type "dict", none, .dict es_FORMS m_FORMS, #[]⟩) (y_FORMS : PySem.W.KeysLit w.params es_FORMS.toList) (w_FORMS : (d_FORMS == sysModules) = false) (e_FORMS : EntR formL es_FORMS.toList) :
    ∃ fd : FuncData, (∀ (s : Shared) (v : Value), BindsTo s fd ⟨[v], []⟩ [("script", v)]) ∧ ∀ base : Heap, K.In base → base.Ns mainGlobals mg → FnOk l.prog w K mg base CX0 7 fa fd ["script"] (sp_lawT K) := by
  have e := hfa.symm.trans (PySem.W.mg_of X G a21)
  cases e
  have T : Txt K mg := { n_isinstance := PySem.W.mg_none_of X G z_isinstance, n_len := PySem.W.mg_none_of X G z_len, n_all := PySem.W.mg_none_of X G z_all, n_any := PySem.W.mg_none_of X G z_any, n_zip := PySem.W.mg_none_of X G z_zip, n_tuple := PySem.W.mg_none_of X G z_tuple, n_str := PySem.W.mg_none_of X G z_str, n_int := PySem.W.mg_none_of X G z_int, n_bool := PySem.W.mg_none_of X G z_bool, n_abs := PySem.W.mg_none_of X G z_abs, n_list := PySem.W.mg_none_of X G z_list, n_range := PySem.W.mg_none_of X G z_range, n_sum := PySem.W.mg_none_of X G z_sum, n_set := PySem.W.mg_none_of X G z_set, n_enumerate := PySem.W.mg_none_of X G z_enumerate, n_sorted := PySem.W.mg_none_of X G z_sorted, n_max := PySem.W.mg_none_of X G z_max, c_LIMIT := ⟨_, PySem.W.mg_of X G v_LIMIT, ⟨_, rfl⟩⟩, c_MOST_INDEX := ⟨_, PySem.W.mg_of X G v_MOST_INDEX, ⟨_, rfl⟩⟩, c_WORD_plain := ⟨_, PySem.W.mg_of X G v_WORD_plain, ⟨_, rfl⟩⟩, c_WORD_walks := ⟨_, PySem.W.mg_of X G v_WORD_walks, ⟨_, rfl⟩⟩, c_SPINE := ⟨_, PySem.W.mg_of X G v_SPINE, ⟨_, rfl⟩⟩, c_ONE := ⟨_, PySem.W.mg_of X G v_ONE, ⟨_, rfl⟩⟩, c_OTHER := ⟨_, PySem.W.mg_of X G v_OTHER, ⟨_, rfl⟩⟩, c_REGISTERS := ⟨_, PySem.W.mg_of X G v_REGISTERS, ⟨_, rfl⟩⟩ }
  have XX_BadValue : XCls K mg "BadValue" X0 := ⟨PySem.W.mg_of X G gX0, xX0, kX0, eX0, tX0, isX0, sfX0⟩
  have S_Plain : SrcCK K mg "Plain" C "Plain.__init__" st_Plain_init ["self", "cells", "slots", "roots", "registers", "threads"] 2 ["roots", "registers", "threads"] := ⟨fC_init, _, PySem.W.mg_of X G gC, ⟨mkC, aC_init, iC_init, kpC⟩, fun_mk (st := st_Plain_init) lC_init cC_init kC_init, kbn_of fun us ws h1 h2 => match us, h1, ws, h2 with | [_, _, _], _, [_, _, _], _ => rfl⟩
  have S_Plain_held : SrcM K C "_held" "Plain._held" st_Plain_held ["self"] := ⟨fC_held, _, ⟨aC_held, iC_held, kC_held⟩, fun_mk (st := st_Plain_held) lC_held cC_held kC_held, (fun_mk (st := st_Plain_held) lC_held cC_held kC_held).binds (ps := ["self"]) fun _ _ _ _ _ _ us hl => match us, hl with | [_], _ => rfl⟩
  have S_Plain_met : SrcM K C "_met" "Plain._met" st_Plain_met ["self"] := ⟨fC_met, _, ⟨aC_met, iC_met, kC_met⟩, fun_mk (st := st_Plain_met) lC_met cC_met kC_met, (fun_mk (st := st_Plain_met) lC_met cC_met kC_met).binds (ps := ["self"]) fun _ _ _ _ _ _ us hl => match us, hl with | [_], _ => rfl⟩
  have S_Plain_reachable : SrcM K C "reachable" "Plain.reachable" st_Plain_reachable ["self"] := ⟨fC_reachable, _, ⟨aC_reachable, iC_reachable, kC_reachable⟩, fun_mk (st := st_Plain_reachable) lC_reachable cC_reachable kC_reachable, (fun_mk (st := st_Plain_reachable) lC_reachable cC_reachable kC_reachable).binds (ps := ["self"]) fun _ _ _ _ _ _ us hl => match us, hl with | [_], _ => rfl⟩
  have S_Plain_used : SrcM K C "used" "Plain.used" st_Plain_used ["self"] := ⟨fC_used, _, ⟨aC_used, iC_used, kC_used⟩, fun_mk (st := st_Plain_used) lC_used cC_used kC_used, (fun_mk (st := st_Plain_used) lC_used cC_used kC_used).binds (ps := ["self"]) fun _ _ _ _ _ _ us hl => match us, hl with | [_], _ => rfl⟩
  have S_Plain_fits : SrcM K C "fits" "Plain.fits" st_Plain_fits ["self", "size"] := ⟨fC_fits, _, ⟨aC_fits, iC_fits, kC_fits⟩, fun_mk (st := st_Plain_fits) lC_fits cC_fits kC_fits, (fun_mk (st := st_Plain_fits) lC_fits cC_fits kC_fits).binds (ps := ["self", "size"]) fun _ _ _ _ _ _ us hl => match us, hl with | [_, _], _ => rfl⟩
  have S_Plain_picture : SrcM K C "picture" "Plain.picture" st_Plain_picture ["self"] := ⟨fC_picture, _, ⟨aC_picture, iC_picture, kC_picture⟩, fun_mk (st := st_Plain_picture) lC_picture cC_picture kC_picture, (fun_mk (st := st_Plain_picture) lC_picture cC_picture kC_picture).binds (ps := ["self"]) fun _ _ _ _ _ _ us hl => match us, hl with | [_], _ => rfl⟩
  have S_Plain_named : SrcM K C "_named" "Plain._named" st_Plain_named ["self", "values", "names"] := ⟨fC_named, _, ⟨aC_named, iC_named, kC_named⟩, fun_mk (st := st_Plain_named) lC_named cC_named kC_named, (fun_mk (st := st_Plain_named) lC_named cC_named kC_named).binds (ps := ["self", "values", "names"]) fun _ _ _ _ _ _ us hl => match us, hl with | [_, _, _], _ => rfl⟩
  have S_Plain_forget : SrcM K C "_forget" "Plain._forget" st_Plain_forget ["self"] := ⟨fC_forget, _, ⟨aC_forget, iC_forget, kC_forget⟩, fun_mk (st := st_Plain_forget) lC_forget cC_forget kC_forget, (fun_mk (st := st_Plain_forget) lC_forget cC_forget kC_forget).binds (ps := ["self"]) fun _ _ _ _ _ _ us hl => match us, hl with | [_], _ => rfl⟩
  have S_Plain_put : SrcM K C "_put" "Plain._put" st_Plain_put ["self", "registers", "place", "size"] := ⟨fC_put, _, ⟨aC_put, iC_put, kC_put⟩, fun_mk (st := st_Plain_put) lC_put cC_put kC_put, (fun_mk (st := st_Plain_put) lC_put cC_put kC_put).binds (ps := ["self", "registers", "place", "size"]) fun _ _ _ _ _ _ us hl => match us, hl with | [_, _, _, _], _ => rfl⟩
  have S_Plain_moved : SrcM K C "_moved" "Plain._moved" st_Plain_moved ["self", "registers", "operation"] := ⟨fC_moved, _, ⟨aC_moved, iC_moved, kC_moved⟩, fun_mk (st := st_Plain_moved) lC_moved cC_moved kC_moved, (fun_mk (st := st_Plain_moved) lC_moved cC_moved kC_moved).binds (ps := ["self", "registers", "operation"]) fun _ _ _ _ _ _ us hl => match us, hl with | [_, _, _], _ => rfl⟩
  have S_Plain_touched : SrcM K C "_touched" "Plain._touched" st_Plain_touched ["self", "registers", "operation", "cells", "index"] := ⟨fC_touched, _, ⟨aC_touched, iC_touched, kC_touched⟩, fun_mk (st := st_Plain_touched) lC_touched cC_touched kC_touched, (fun_mk (st := st_Plain_touched) lC_touched cC_touched kC_touched).binds (ps := ["self", "registers", "operation", "cells", "index"]) fun _ _ _ _ _ _ us hl => match us, hl with | [_, _, _, _, _], _ => rfl⟩
  have S_Plain_on_object : SrcM K C "_on_object" "Plain._on_object" st_Plain_on_object ["self", "registers", "operation"] := ⟨fC_on_object, _, ⟨aC_on_object, iC_on_object, kC_on_object⟩, fun_mk (st := st_Plain_on_object) lC_on_object cC_on_object kC_on_object, (fun_mk (st := st_Plain_on_object) lC_on_object cC_on_object kC_on_object).binds (ps := ["self", "registers", "operation"]) fun _ _ _ _ _ _ us hl => match us, hl with | [_, _, _], _ => rfl⟩
  have S_Plain_do : SrcM K C "do" "Plain.do" st_Plain_do ["self", "thread", "operation"] := ⟨fC_do, _, ⟨aC_do, iC_do, kC_do⟩, fun_mk (st := st_Plain_do) lC_do cC_do kC_do, (fun_mk (st := st_Plain_do) lC_do cC_do kC_do).binds (ps := ["self", "thread", "operation"]) fun _ _ _ _ _ _ us hl => match us, hl with | [_, _, _], _ => rfl⟩
  have S_is_integer : Src K mg "is_integer" st_is_integer ["value"] := ⟨f1, _, PySem.W.mg_of X G a1, fun_mk (st := st_is_integer) l1 c1 k1, (fun_mk (st := st_is_integer) l1 c1 k1).binds (ps := ["value"]) fun _ _ _ _ _ _ us hl => match us, hl with | [_], _ => rfl⟩
  have S_is_count : Src K mg "is_count" st_is_count ["value"] := ⟨f2, _, PySem.W.mg_of X G a2, fun_mk (st := st_is_count) l2 c2 k2, (fun_mk (st := st_is_count) l2 c2 k2).binds (ps := ["value"]) fun _ _ _ _ _ _ us hl => match us, hl with | [_], _ => rfl⟩
  have S_is_part : Src K mg "is_part" st_is_part ["kind", "value", "roots", "registers"] := ⟨f3, _, PySem.W.mg_of X G a3, fun_mk (st := st_is_part) l3 c3 k3, (fun_mk (st := st_is_part) l3 c3 k3).binds (ps := ["kind", "value", "roots", "registers"]) fun _ _ _ _ _ _ us hl => match us, hl with | [_, _, _, _], _ => rfl⟩
  have S_is_operation : SrcK K mg "is_operation" st_is_operation ["value", "roots", "registers"] 1 ["roots", "registers"] := ⟨f4, _, PySem.W.mg_of X G a4, fun_mk (st := st_is_operation) l4 c4 k4, kbn_of fun us ws h1 h2 => match us, h1, ws, h2 with | [_], _, [_, _], _ => rfl⟩
  have S_is_shown : Src K mg "is_shown" st_is_shown ["value", "count", "with_numbers"] := ⟨f5, _, PySem.W.mg_of X G a5, fun_mk (st := st_is_shown) l5 c5 k5, (fun_mk (st := st_is_shown) l5 c5 k5).binds (ps := ["value", "count", "with_numbers"]) fun _ _ _ _ _ _ us hl => match us, hl with | [_, _, _], _ => rfl⟩
  have S_met_from : Src K mg "met_from" st_met_from ["roots", "objects"] := ⟨f6, _, PySem.W.mg_of X G a6, fun_mk (st := st_met_from) l6 c6 k6, (fun_mk (st := st_met_from) l6 c6 k6).binds (ps := ["roots", "objects"]) fun _ _ _ _ _ _ us hl => match us, hl with | [_, _], _ => rfl⟩
  have S_check_picture : Src K mg "check_picture" st_check_picture ["roots", "objects"] := ⟨f7, _, PySem.W.mg_of X G a7, fun_mk (st := st_check_picture) l7 c7 k7, (fun_mk (st := st_check_picture) l7 c7 k7).binds (ps := ["roots", "objects"]) fun _ _ _ _ _ _ us hl => match us, hl with | [_, _], _ => rfl⟩
  have S_filling_of : Src K mg "filling_of" st_filling_of ["number", "k", "value"] := ⟨f8, _, PySem.W.mg_of X G a8, fun_mk (st := st_filling_of) l8 c8 k8, (fun_mk (st := st_filling_of) l8 c8 k8).binds (ps := ["number", "k", "value"]) fun _ _ _ _ _ _ us hl => match us, hl with | [_, _, _], _ => rfl⟩
  have S_builder_of : Src K mg "builder_of" st_builder_of ["roots", "objects"] := ⟨f9, _, PySem.W.mg_of X G a9, fun_mk (st := st_builder_of) l9 c9 k9, (fun_mk (st := st_builder_of) l9 c9 k9).binds (ps := ["roots", "objects"]) fun _ _ _ _ _ _ us hl => match us, hl with | [_, _], _ => rfl⟩
  have S_room_of : Src K mg "room_of" st_room_of ["objects"] := ⟨f10, _, PySem.W.mg_of X G a10, fun_mk (st := st_room_of) l10 c10 k10, (fun_mk (st := st_room_of) l10 c10 k10).binds (ps := ["objects"]) fun _ _ _ _ _ _ us hl => match us, hl with | [_], _ => rfl⟩
  have S__law_tape : Src K mg "_law_tape" st__law_tape ["script"] := ⟨f11, _, PySem.W.mg_of X G a11, fun_mk (st := st__law_tape) l11 c11 k11, (fun_mk (st := st__law_tape) l11 c11 k11).binds (ps := ["script"]) fun _ _ _ _ _ _ us hl => match us, hl with | [_], _ => rfl⟩
  have S__law_draw : Src K mg "_law_draw" st__law_draw ["tape", "many"] := ⟨f12, _, PySem.W.mg_of X G a12, fun_mk (st := st__law_draw) l12 c12 k12, (fun_mk (st := st__law_draw) l12 c12 k12).binds (ps := ["tape", "many"]) fun _ _ _ _ _ _ us hl => match us, hl with | [_, _], _ => rfl⟩
  have S__law_pick : Src K mg "_law_pick" st__law_pick ["tape", "row"] := ⟨f13, _, PySem.W.mg_of X G a13, fun_mk (st := st__law_pick) l13 c13 k13, (fun_mk (st := st__law_pick) l13 c13 k13).binds (ps := ["tape", "row"]) fun _ _ _ _ _ _ us hl => match us, hl with | [_, _], _ => rfl⟩
  have S__law_first : Src K mg "_law_first" st__law_first ["values"] := ⟨f14, _, PySem.W.mg_of X G a14, fun_mk (st := st__law_first) l14 c14 k14, (fun_mk (st := st__law_first) l14 c14 k14).binds (ps := ["values"]) fun _ _ _ _ _ _ us hl => match us, hl with | [_], _ => rfl⟩
  have S__law_renamed : Src K mg "_law_renamed" st__law_renamed ["values", "met"] := ⟨f15, _, PySem.W.mg_of X G a15, fun_mk (st := st__law_renamed) l15 c15 k15, (fun_mk (st := st__law_renamed) l15 c15 k15).binds (ps := ["values", "met"]) fun _ _ _ _ _ _ us hl => match us, hl with | [_, _], _ => rfl⟩
  have S__law_heap : Src K mg "_law_heap" st__law_heap ["tape", "roots", "registers", "most"] := ⟨f16, _, PySem.W.mg_of X G a16, fun_mk (st := st__law_heap) l16 c16 k16, (fun_mk (st := st__law_heap) l16 c16 k16).binds (ps := ["tape", "roots", "registers", "most"]) fun _ _ _ _ _ _ us hl => match us, hl with | [_, _, _, _], _ => rfl⟩
  have S__law_same : Src K mg "_law_same" st__law_same ["one", "other"] := ⟨f17, _, PySem.W.mg_of X G a17, fun_mk (st := st__law_same) l17 c17 k17, (fun_mk (st := st__law_same) l17 c17 k17).binds (ps := ["one", "other"]) fun _ _ _ _ _ _ us hl => match us, hl with | [_, _], _ => rfl⟩
  have S__law_no_picture : Src K mg "_law_no_picture" st__law_no_picture ["tape", "roots", "objects"] := ⟨f18, _, PySem.W.mg_of X G a18, fun_mk (st := st__law_no_picture) l18 c18 k18, (fun_mk (st := st__law_no_picture) l18 c18 k18).binds (ps := ["tape", "roots", "objects"]) fun _ _ _ _ _ _ us hl => match us, hl with | [_, _, _], _ => rfl⟩
  have S__law_refused : Src K mg "_law_refused" st__law_refused ["tape", "roots", "objects"] := ⟨f19, _, PySem.W.mg_of X G a19, fun_mk (st := st__law_refused) l19 c19 k19, (fun_mk (st := st__law_refused) l19 c19 k19).binds (ps := ["tape", "roots", "objects"]) fun _ _ _ _ _ _ us hl => match us, hl with | [_, _, _], _ => rfl⟩
  have S__law_is_picture : Src K mg "_law_is_picture" st__law_is_picture ["roots", "objects"] := ⟨f20, _, PySem.W.mg_of X G a20, fun_mk (st := st__law_is_picture) l20 c20 k20, (fun_mk (st := st__law_is_picture) l20 c20 k20).binds (ps := ["roots", "objects"]) fun _ _ _ _ _ _ us hl => match us, hl with | [_, _], _ => rfl⟩
  have FL := fun_mk (st := st_law) l21 c21 k21
  have TT : TTxt K C := ⟨⟨pgC, hdC, poC, saC⟩, nC__cells, nC__slots, nC__roots, nC__registers, nC__objects, nC__count⟩
  have FT : FTxt K w mg d_FORMS es_FORMS m_FORMS := ⟨⟨_, PySem.W.mg_of X G g_FORMS, rfl⟩, ⟨l_FORMS, y_FORMS, w_FORMS⟩, e_FORMS⟩
  refine ⟨PySem.W.fnOf "law" "law" (defArgs st_law) (defBody st_law) (defScope st_law) .none kV21 dc21 pm21 an21 cd21 ct21, fun s v => .of_eq rfl, fun base _ _ => ?_⟩
  have C_is_integer := cal_is_integer (P := l.prog) (w := w) (base := base) S_is_integer T
  have C_is_count := cal_is_count S_is_count T C_is_integer
  have C_is_part := cal_is_part S_is_part T C_is_integer
  have C_is_operation := cal_is_operation S_is_operation T FT C_is_part
  have M__held := cal_held (P := l.prog) (w := w) (base := base) S_Plain_held T TT
  have M__met := cal_met S_Plain_met T TT M__held
  have M_used := cal_used S_Plain_used T TT M__met
  have M_fits := cal_fits S_Plain_fits T TT M__met M_used
  have M__named := cal_named (P := l.prog) (w := w) (base := base) S_Plain_named T
  have M_picture := cal_picture S_Plain_picture T TT M__met M__named
  have M__forget := cal_forget S_Plain_forget T TT M__met
  have M__put := cal_put (P := l.prog) (w := w) (base := base) S_Plain_put T TT
  have M__moved := cal_moved (P := l.prog) (w := w) (base := base) S_Plain_moved T TT
  have M__touched := cal_touched S_Plain_touched T TT C_is_integer
  have M__on_object := cal_on_object S_Plain_on_object T TT M__touched
  have M_do := cal_do S_Plain_do T TT C_is_operation M_fits M__put M__moved M__on_object M__forget
  have C_Plain := cal_init (P := l.prog) (w := w) (base := base) S_Plain T TT
  have M_reach := cal_reachable S_Plain_reachable T TT M__met
  have C_shown := cal_shown S_is_shown T C_is_integer C_is_count
  have C_metf := cal_met_from (P := l.prog) (w := w) (base := base) S_met_from T
  have C_check := cal_check S_check_picture T XX_BadValue C_shown C_metf
  have C_filling := cal_filling S_filling_of T C_is_integer
  have C_builder := cal_builder S_builder_of T C_check C_filling
  have C_room := cal_room (P := l.prog) (w := w) (base := base) S_room_of T
  have C_tape := cal__law_tape (P := l.prog) (w := w) (base := base) S__law_tape T
  have C_draw := cal__law_draw (P := l.prog) (w := w) (base := base) S__law_draw T
  have C_pick := cal__law_pick S__law_pick T C_draw
  have C_pickG := cal_pickG S__law_pick T C_draw
  have C_first := cal_first (P := l.prog) (w := w) (base := base) S__law_first T
  have C_ren := cal_ren (P := l.prog) (w := w) (base := base) S__law_renamed T
  have C_heap := cal_heap S__law_heap T C_draw C_pick C_first C_ren
  have C_same := cal_same (P := l.prog) (w := w) (base := base) S__law_same T 5
  have C_nopic := cal_nopic S__law_no_picture T C_pickG
  have C_ref := cal_refused S__law_refused T XX_BadValue C_nopic C_builder C_check
  have C_ispic := cal_ispic S__law_is_picture T C_first
  exact lawT (law_body FL T TT C_tape C_draw C_heap C_check.noX C_ispic C_room C_builder.noX C_Plain M_do M_picture M_used M_reach C_same C_ref)
end
theorem walk {l : PySem.W.OpenLaw} {q : Program} {loose : List Str} {XP : (Str → Option Value) → Heap → Prop} {YP : World → Heap → Prop} {d : DefRec} {K : Params → PySem.W.Frag} (hn : l.most = some 63) (hdf : d.params.defaults = [])
    (hY : ∀ (w : World) (h : Heap), YP w h → (K w.params).In h)
    (F : ∀ (w : World) (mg : Str → Option Value) (fa : Addr) (h : Heap), (K w.params).In h → h.Ns mainGlobals mg → mg d.name = some (.ref fa) →
      ∃ fd : FuncData, (∀ (s : Shared) (u : Value), BindsTo s fd ⟨[u], []⟩ [("script", u)]) ∧ ∀ base : Heap, (K w.params).In base → base.Ns mainGlobals mg → FnOk l.prog w (K w.params) mg base CX0 7 fa fd ["script"] (sp_lawT (K w.params))) :
    PySem.W.WalkO q loose XP YP l.row.toRowW d [] (fun f vs => PySem.call f vs) :=
  L2.walk_of (n := 63) (k := 7) (x := "script") (CX := fun _ => CX0) (sp := fun w => sp_lawT (K w.params)) hn (by decide) hdf ⟨rfl, by decide, by decide⟩ hY F (fun _ _ a ns hl _ hS => ⟨a, ns, rfl, hS, hl, fun _ => rfl⟩) fun _ _ _ _ _ z => z
end K37
open PySem PySem.W PyProof.Rows
set_option maxRecDepth 100000 in
set_option maxHeartbeats 0 in
theorem PySem.Challenge.cw_gleanworld_k37_whole_builders_over_plain_holds : PySem.Challenge.rw_gleanworld_k37_whole_builders_over_plain.Holds := by
  w_on; o_law; k_head; (case hw => w_witness2)
  k_fill
  refine K37.walk (l := PySem.Challenge.rw_gleanworld_k37_whole_builders_over_plain) rfl rfl (fun w h Y => PySem.W.kIn_of Y) ?F
  case F =>
    intro w mg fa h KX G hmg
    refine' K37.all_mk KX G hmg ?gX0 ?xX0 ?kX0 ?eX0 ?tX0 ?isX0 ?sfX0 ?gC ?pgC ?hdC ?poC ?saC ?mkC ?kpC ?nC__cells ?nC__slots ?nC__roots ?nC__registers ?nC__objects ?nC__count ?aC_init ?lC_init ?cC_init ?kC_init ?iC_init ?aC_held ?lC_held ?cC_held ?kC_held ?iC_held ?aC_met ?lC_met ?cC_met ?kC_met ?iC_met ?aC_reachable ?lC_reachable ?cC_reachable ?kC_reachable ?iC_reachable ?aC_used ?lC_used ?cC_used ?kC_used ?iC_used ?aC_fits ?lC_fits ?cC_fits ?kC_fits ?iC_fits ?aC_picture ?lC_picture ?cC_picture ?kC_picture ?iC_picture ?aC_named ?lC_named ?cC_named ?kC_named ?iC_named ?aC_forget ?lC_forget ?cC_forget ?kC_forget ?iC_forget ?aC_put ?lC_put ?cC_put ?kC_put ?iC_put ?aC_moved ?lC_moved ?cC_moved ?kC_moved ?iC_moved ?aC_touched ?lC_touched ?cC_touched ?kC_touched ?iC_touched ?aC_on_object ?lC_on_object ?cC_on_object ?kC_on_object ?iC_on_object ?aC_do ?lC_do ?cC_do ?kC_do ?iC_do ?a1 ?l1 ?c1 ?k1 ?a2 ?l2 ?c2 ?k2 ?a3 ?l3 ?c3 ?k3 ?a4 ?l4 ?c4 ?k4 ?a5 ?l5 ?c5 ?k5 ?a6 ?l6 ?c6 ?k6 ?a7 ?l7 ?c7 ?k7 ?a8 ?l8 ?c8 ?k8 ?a9 ?l9 ?c9 ?k9 ?a10 ?l10 ?c10 ?k10 ?a11 ?l11 ?c11 ?k11 ?a12 ?l12 ?c12 ?k12 ?a13 ?l13 ?c13 ?k13 ?a14 ?l14 ?c14 ?k14 ?a15 ?l15 ?c15 ?k15 ?a16 ?l16 ?c16 ?k16 ?a17 ?l17 ?c17 ?k17 ?a18 ?l18 ?c18 ?k18 ?a19 ?l19 ?c19 ?k19 ?a20 ?l20 ?c20 ?k20 ?a21 ?l21 ?c21 ?k21 ?z_isinstance ?z_len ?z_all ?z_any ?z_zip ?z_tuple ?z_str ?z_int ?z_bool ?z_abs ?z_list ?z_range ?z_sum ?z_set ?z_enumerate ?z_sorted ?z_max ?v_LIMIT ?v_MOST_INDEX ?v_WORD_plain ?v_WORD_walks ?v_SPINE ?v_ONE ?v_OTHER ?v_REGISTERS ?g_FORMS ?l_FORMS ?y_FORMS ?w_FORMS ?e_FORMS
    (case gX0 => k_is); (case xX0 => k_exc); (case kX0 => k_is); (case eX0 => k_is); (case tX0 => k_is); (case isX0 => k_is); (case sfX0 => first | rfl | k_is)
    (case gC => k_is); (case pgC => k_is); (case hdC => k_is); (case poC => k_is); (case saC => k_is); (case mkC => k_is); (case kpC => k_is); (case nC__cells => k_is); (case nC__slots => k_is); (case nC__roots => k_is); (case nC__registers => k_is); (case nC__objects => k_is); (case nC__count => k_is)
    (case aC_init => k_is); (case lC_init => k_is); (case cC_init => k_is); (case kC_init => k_is); (case iC_init => k_is)
    (case aC_held => k_is); (case lC_held => k_is); (case cC_held => k_is); (case kC_held => k_is); (case iC_held => k_is)
    (case aC_met => k_is); (case lC_met => k_is); (case cC_met => k_is); (case kC_met => k_is); (case iC_met => k_is)
    (case aC_reachable => k_is); (case lC_reachable => k_is); (case cC_reachable => k_is); (case kC_reachable => k_is); (case iC_reachable => k_is)
    (case aC_used => k_is); (case lC_used => k_is); (case cC_used => k_is); (case kC_used => k_is); (case iC_used => k_is)
    (case aC_fits => k_is); (case lC_fits => k_is); (case cC_fits => k_is); (case kC_fits => k_is); (case iC_fits => k_is)
    (case aC_picture => k_is); (case lC_picture => k_is); (case cC_picture => k_is); (case kC_picture => k_is); (case iC_picture => k_is)
    (case aC_named => k_is); (case lC_named => k_is); (case cC_named => k_is); (case kC_named => k_is); (case iC_named => k_is)
    (case aC_forget => k_is); (case lC_forget => k_is); (case cC_forget => k_is); (case kC_forget => k_is); (case iC_forget => k_is)
    (case aC_put => k_is); (case lC_put => k_is); (case cC_put => k_is); (case kC_put => k_is); (case iC_put => k_is)
    (case aC_moved => k_is); (case lC_moved => k_is); (case cC_moved => k_is); (case kC_moved => k_is); (case iC_moved => k_is)
    (case aC_touched => k_is); (case lC_touched => k_is); (case cC_touched => k_is); (case kC_touched => k_is); (case iC_touched => k_is)
    (case aC_on_object => k_is); (case lC_on_object => k_is); (case cC_on_object => k_is); (case kC_on_object => k_is); (case iC_on_object => k_is)
    (case aC_do => k_is); (case lC_do => k_is); (case cC_do => k_is); (case kC_do => k_is); (case iC_do => k_is)
    (case a1 => k_is); (case l1 => k_is); (case c1 => k_is); (case k1 => k_is)
    (case a2 => k_is); (case l2 => k_is); (case c2 => k_is); (case k2 => k_is)
    (case a3 => k_is); (case l3 => k_is); (case c3 => k_is); (case k3 => k_is)
    (case a4 => k_is); (case l4 => k_is); (case c4 => k_is); (case k4 => k_is)
    (case a5 => k_is); (case l5 => k_is); (case c5 => k_is); (case k5 => k_is)
    (case a6 => k_is); (case l6 => k_is); (case c6 => k_is); (case k6 => k_is)
    (case a7 => k_is); (case l7 => k_is); (case c7 => k_is); (case k7 => k_is)
    (case a8 => k_is); (case l8 => k_is); (case c8 => k_is); (case k8 => k_is)
    (case a9 => k_is); (case l9 => k_is); (case c9 => k_is); (case k9 => k_is)
    (case a10 => k_is); (case l10 => k_is); (case c10 => k_is); (case k10 => k_is)
    (case a11 => k_is); (case l11 => k_is); (case c11 => k_is); (case k11 => k_is)
    (case a12 => k_is); (case l12 => k_is); (case c12 => k_is); (case k12 => k_is)
    (case a13 => k_is); (case l13 => k_is); (case c13 => k_is); (case k13 => k_is)
    (case a14 => k_is); (case l14 => k_is); (case c14 => k_is); (case k14 => k_is)
    (case a15 => k_is); (case l15 => k_is); (case c15 => k_is); (case k15 => k_is)
    (case a16 => k_is); (case l16 => k_is); (case c16 => k_is); (case k16 => k_is)
    (case a17 => k_is); (case l17 => k_is); (case c17 => k_is); (case k17 => k_is)
    (case a18 => k_is); (case l18 => k_is); (case c18 => k_is); (case k18 => k_is)
    (case a19 => k_is); (case l19 => k_is); (case c19 => k_is); (case k19 => k_is)
    (case a20 => k_is); (case l20 => k_is); (case c20 => k_is); (case k20 => k_is)
    (case a21 => k_is); (case l21 => k_is); (case c21 => k_is); (case k21 => k_is)
    (case z_isinstance => k_is); (case z_len => k_is); (case z_all => k_is); (case z_any => k_is); (case z_zip => k_is); (case z_tuple => k_is); (case z_str => k_is); (case z_int => k_is); (case z_bool => k_is); (case z_abs => k_is); (case z_list => k_is); (case z_range => k_is); (case z_sum => k_is); (case z_set => k_is); (case z_enumerate => k_is); (case z_sorted => k_is); (case z_max => k_is)
    (case v_LIMIT => k_is); (case v_MOST_INDEX => k_is); (case v_WORD_plain => k_is); (case v_WORD_walks => k_is); (case v_SPINE => k_is); (case v_ONE => k_is); (case v_OTHER => k_is); (case v_REGISTERS => k_is)
    (case g_FORMS => k_is); (case l_FORMS => k_is); (case y_FORMS => repeat (first | exact trivial | refine ⟨⟨_, _, rfl, rfl⟩, ?_⟩)); (case w_FORMS => first | rfl | decide); (case e_FORMS => repeat (first | exact K37.EntR.nil | refine K37.EntR.cons _ _ rfl rfl ?_))

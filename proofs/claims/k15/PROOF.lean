import PyProof.Rows.All
import Wide.All
import OpenK.AllK
import Wide.FinOn
import HandS.ForMost
import HandS.ForExc
import HandS.Evl
import HandS.Walk
import HandS.Zip
import HandS.IsInst
import HandS.TupAny
import HandS.Steps
import HandS.Iter
import HandS.Text
import HandS.Comp
import HandS.ExcInit
import HandS.ExcField
import HandS.ExcBuiltin
import HandS.EndBits
import HandS.Small
import HandS.Flow
import KE.KDictPairs
import HandS.ListItems
import PyProof.TupleOfSeq
import PyProof.RulesMatchSeq
import PyProof.Rows.MatchSeqLen
import PyProof.EnumMake
import PyProof.Draws
import KE.GoesMore
import HandS.Deep
import HandS.TupMul
import KE.GoesZip
import HandS.Defaults
import HandS.More
import HandS.ExcOwn
import HandS.ForDict
import HandS.Strs
import HandS.Style
import HandS.DictComp
import HandS.MakeKwOnly
import HandS.SortInts
import HandS.DictTup
import HandS.TupLen
import HandS.Conv
import HandS.List
import HandS.TryMany
import HandS.TryOnly
import HandS.SortRule
import PySem.Challenge.RW_gleanworld_k15_whole_restored_goes_on
set_option Elab.async false
set_option linter.all false
set_option maxRecDepth 100000
set_option maxHeartbeats 2000000
/-! Pd: immutable data over the abstract heap, and what expressions evaluate to as data. -/
namespace Pd
open PySem L2 Evl

mutual
/-- v is data d in H: tuples and lists are tracked there -/
inductive Im (H : Hp) : V → PyData → Prop
  | non : Im H .non .none
  | bl (b : Bool) : Im H (.bl b) (.bool b)
  | int (i : Int) : Im H (.int i) (.int i)
  | str (x : Str) : Im H (.str x) (.str x)
  | lst {a : Addr} {xs : List V} {ds : List PyData} : H a = some (.lst xs) → Ims H xs ds → Im H (.ref a) (.list ds)
  | tup {a : Addr} {xs : List V} {ds : List PyData} : H a = some (.tup xs) → Ims H xs ds → Im H (.ref a) (.tuple ds)
inductive Ims (H : Hp) : List V → List PyData → Prop
  | nil : Ims H [] []
  | cons {v : V} {vs : List V} {d : PyData} {ds : List PyData} : Im H v d → Ims H vs ds → Ims H (v :: vs) (d :: ds)
end

mutual
theorem Im.mono {H H' : Hp} (e : Ex H H') : ∀ {d : PyData} {v : V}, Im H v d → Im H' v d
  | .none, _, h => by cases h; exact .non
  | .bool _, _, h => by cases h; exact .bl _
  | .int _, _, h => by cases h; exact .int _
  | .str _, _, h => by cases h; exact .str _
  | .list ds, _, h => by cases h with | lst h1 h2 => exact .lst (e _ _ h1) (Ims.mono e h2)
  | .tuple ds, _, h => by cases h with | tup h1 h2 => exact .tup (e _ _ h1) (Ims.mono e h2)
  | .dict _, _, h => by cases h
theorem Ims.mono {H H' : Hp} (e : Ex H H') : ∀ {ds : List PyData} {vs : List V}, Ims H vs ds → Ims H' vs ds
  | [], _, h => by cases h; exact .nil
  | d :: ds, _, h => by cases h with | cons h1 h2 => exact .cons (Im.mono e h1) (Ims.mono e h2)
end

mutual
/-- no list within -/
def still : PyData → Bool
  | .list _ => false
  | .dict _ => false
  | .tuple ds => stills ds
  | _ => true
def stills : List PyData → Bool
  | [] => true
  | d :: ds => still d && stills ds
end
/-- the tuples stay -/
def Tx (H H' : Hp) : Prop := ∀ a xs, H a = some (.tup xs) → H' a = some (.tup xs)
theorem Tx.refl (H : Hp) : Tx H H := fun _ _ h => h
theorem Tx.trans {H H1 H2 : Hp} (a : Tx H H1) (b : Tx H1 H2) : Tx H H2 := fun x o h => b x o (a x o h)
theorem Tx.of {H H' : Hp} (e : Ex H H') : Tx H H' := fun a xs h => e a _ h
mutual
theorem Im.tx {H H' : Hp} (e : Tx H H') : ∀ {d : PyData} {v : V}, still d = true → Im H v d → Im H' v d
  | .none, _, _, h => by cases h; exact .non
  | .bool _, _, _, h => by cases h; exact .bl _
  | .int _, _, _, h => by cases h; exact .int _
  | .str _, _, _, h => by cases h; exact .str _
  | .list ds, _, s, h => by cases s
  | .tuple ds, _, s, h => by cases h with | tup h1 h2 => exact .tup (e _ _ h1) (Ims.tx e s h2)
  | .dict _, _, _, h => by cases h
theorem Ims.tx {H H' : Hp} (e : Tx H H') : ∀ {ds : List PyData} {vs : List V}, stills ds = true → Ims H vs ds → Ims H' vs ds
  | [], _, _, h => by cases h; exact .nil
  | d :: ds, _, s, h => by
    cases h with
    | cons h1 h2 =>
      have s' : still d = true ∧ stills ds = true := Bool.and_eq_true_iff.mp s
      exact .cons (Im.tx e s'.1 h1) (Ims.tx e s'.2 h2)
end

theorem Ims.length {H : Hp} : ∀ {ds : List PyData} {vs : List V}, Ims H vs ds → vs.length = ds.length
  | [], _, h => by cases h; rfl
  | d :: ds, _, h => by cases h with | cons h1 h2 => simp [Ims.length h2]
theorem Ims.get {H : Hp} : ∀ {ds : List PyData} {vs : List V} {i : Nat} {v : V}, Ims H vs ds → vs[i]? = some v → ∃ d, ds[i]? = some d ∧ Im H v d
  | [], _, _, _, h, e => by cases h; simp at e
  | d :: ds, _, 0, v, h, e => by cases h with | cons h1 h2 => simp at e; subst e; exact ⟨d, rfl, h1⟩
  | d :: ds, _, i + 1, v, h, e => by cases h with | cons h1 h2 => exact Ims.get (i := i) h2 (by simpa using e)
theorem Ims.getD {H : Hp} : ∀ {ds : List PyData} {vs : List V} {i : Nat} {d : PyData}, Ims H vs ds → ds[i]? = some d → ∃ v, vs[i]? = some v ∧ Im H v d
  | [], _, _, _, h, e => by simp at e
  | d :: ds, _, 0, v, h, e => by cases h with | cons h1 h2 => simp at e; subst e; exact ⟨_, rfl, h1⟩
  | d :: ds, _, i + 1, v, h, e => by cases h with | cons h1 h2 => exact Ims.getD (i := i) h2 (by simpa using e)
theorem Ims.append {H : Hp} : ∀ {ds es : List PyData} {vs ws : List V}, Ims H vs ds → Ims H ws es → Ims H (vs ++ ws) (ds ++ es)
  | [], _, _, _, h, k => by cases h; exact k
  | d :: ds, _, _, _, h, k => by cases h with | cons h1 h2 => exact .cons h1 (Ims.append h2 k)
theorem Ims.take {H : Hp} : ∀ {ds : List PyData} {vs : List V} (n : Nat), Ims H vs ds → Ims H (vs.take n) (ds.take n)
  | _, _, 0, _ => .nil
  | [], _, n + 1, h => by cases h; exact .nil
  | d :: ds, _, n + 1, h => by cases h with | cons h1 h2 => exact .cons h1 (Ims.take n h2)
theorem Ims.drop {H : Hp} : ∀ {ds : List PyData} {vs : List V} (n : Nat), Ims H vs ds → Ims H (vs.drop n) (ds.drop n)
  | _, _, 0, h => h
  | [], _, n + 1, h => by cases h; exact .nil
  | d :: ds, _, n + 1, h => by cases h with | cons h1 h2 => exact Ims.drop n h2

/-- inversions -/
theorem Im.s {H : Hp} {v : V} {x : Str} (h : Im H v (.str x)) : v = .str x := by cases h; rfl
theorem Im.i {H : Hp} {v : V} {x : Int} (h : Im H v (.int x)) : v = .int x := by cases h; rfl
theorem Im.b {H : Hp} {v : V} {x : Bool} (h : Im H v (.bool x)) : v = .bl x := by cases h; rfl
theorem Im.n {H : Hp} {v : V} (h : Im H v .none) : v = .non := by cases h; rfl
theorem Im.t {H : Hp} {v : V} {ds : List PyData} (h : Im H v (.tuple ds)) : ∃ a xs, v = .ref a ∧ H a = some (.tup xs) ∧ Ims H xs ds := by cases h with | tup h1 h2 => exact ⟨_, _, rfl, h1, h2⟩
theorem Im.l {H : Hp} {v : V} {ds : List PyData} (h : Im H v (.list ds)) : ∃ a xs, v = .ref a ∧ H a = some (.lst xs) ∧ Ims H xs ds := by cases h with | lst h1 h2 => exact ⟨_, _, rfl, h1, h2⟩
theorem Ims.strs {H : Hp} : ∀ {ss : List Str} {vs : List V}, Ims H vs (ss.map PyData.str) → vs = ss.map V.str
  | [], _, h => by cases h; rfl
  | s :: ss, _, h => by cases h with | cons h1 h2 => rw [h1.s, Ims.strs h2]; rfl
theorem Ims.bls {H : Hp} : ∀ {ss : List Bool} {vs : List V}, Ims H vs (ss.map PyData.bool) → vs = ss.map V.bl
  | [], _, h => by cases h; rfl
  | s :: ss, _, h => by cases h with | cons h1 h2 => rw [h1.b, Ims.bls h2]; rfl
theorem Ims.ofStrs {H : Hp} : ∀ ss : List Str, Ims H (ss.map V.str) (ss.map PyData.str)
  | [] => .nil
  | s :: ss => .cons (.str s) (Ims.ofStrs ss)

mutual
theorem Im.dp {K : PySem.W.Frag} {H : Hp} : ∀ {d : PyData} {v : V}, Im H v d → Dp K H v d
  | .none, _, h => by cases h; exact .non
  | .bool _, _, h => by cases h; exact .bl _
  | .int _, _, h => by cases h; exact .int _
  | .str _, _, h => by cases h; exact .str _
  | .list ds, _, h => by cases h with | lst h1 h2 => exact .lst (SqL.of h1) (Ims.dp h2)
  | .tuple ds, _, h => by cases h with | tup h1 h2 => exact .tup (SqT.of h1) (Ims.dp h2)
  | .dict _, _, h => by cases h
theorem Ims.dp {K : PySem.W.Frag} {H : Hp} : ∀ {ds : List PyData} {vs : List V}, Ims H vs ds → DpAll K H vs ds
  | [], _, h => by cases h; exact .nil
  | d :: ds, _, h => by cases h with | cons h1 h2 => exact .cons (Im.dp h1) (Ims.dp h2)
end

/-! ### what evaluates to what data -/
def EvD (te : TE) (σ : L2.St) (H : Hp) (d : PyData) : Prop := ∀ H1, Ex H H1 → ∀ Q : VK, (∀ v H2, Ex H1 H2 → Im H2 v d → Q v H2) → te σ H1 Q
/-- a new list -/
def EvN (te : TE) (σ : L2.St) (H : Hp) (ds : List PyData) : Prop := ∀ H1, Ex H H1 → ∀ Q : VK, (∀ p xs H2, H1 p = none → Ex H1 H2 → H2 p = some (.lst xs) → Ims H2 xs ds → Q (.ref p) H2) → te σ H1 Q
def EvDs (ta : TA) (σ : L2.St) (H : Hp) (ds : List PyData) : Prop := ∀ H1, Ex H H1 → ∀ Q : List V → Hp → Prop, (∀ vs H2, Ex H1 H2 → Ims H2 vs ds → Q vs H2) → ta σ H1 Q

section
variable {K : PySem.W.Frag} {σ : L2.St} {H H' : Hp} {ta tb te tx tl : TE} {t u : TT} {x y z v : V} {d d' e' : PyData} {ds es : List PyData}
theorem EvD.mono (e : Ex H H') (h : EvD te σ H d) : EvD te σ H' d := fun H1 a Q q => h H1 (e.trans a) Q q
theorem EvN.mono (e : Ex H H') (h : EvN te σ H ds) : EvN te σ H' ds := fun H1 a Q q => h H1 (e.trans a) Q q
theorem EvDs.mono {ta : TA} (e : Ex H H') (h : EvDs ta σ H ds) : EvDs ta σ H' ds := fun H1 a Q q => h H1 (e.trans a) Q q
theorem EvN.toD (h : EvN te σ H ds) : EvD te σ H (.list ds) := fun H1 a Q q => h H1 a Q fun p xs H2 _ e1 e2 e3 => q _ H2 e1 (.lst e2 e3)
theorem EvN.is {es : List PyData} (h : EvN te σ H ds) (e : ds = es) : EvN te σ H es := e ▸ h
theorem EvD.is (h : EvD te σ H d) (e : d = d') : EvD te σ H d' := e ▸ h
theorem ed_var {i : Nat} (h : σ[i]? = some (some v)) (hd : Im H v d) : EvD (tVar i) σ H d := fun H1 e _ q => ⟨v, h, q v H1 (Ex.refl H1) (hd.mono e)⟩
theorem ed_c (h : Im H v d) : EvD (tC v) σ H d := fun H1 e _ q => q v H1 (Ex.refl H1) (h.mono e)
theorem ed_i (i : Int) : EvD (tC (.int i)) σ H (.int i) := ed_c (.int i)
theorem ed_s (i : Str) : EvD (tC (.str i)) σ H (.str i) := ed_c (.str i)
theorem ed_b (i : Bool) : EvD (tC (.bl i)) σ H (.bool i) := ed_c (.bl i)
theorem ed_n : EvD (tC .non) σ H .none := ed_c .non
theorem ea0 : EvDs tNil σ H [] := fun H1 _ _ q => q _ H1 (Ex.refl H1) .nil
theorem ea1 {tr : TA} (h : EvD ta σ H d) (hr : EvDs tr σ H ds) : EvDs (tCons ta tr) σ H (d :: ds) := fun H1 e _ q =>
  h H1 e _ fun v H2 e2 i2 => hr H2 (e.trans e2) _ fun vs H3 e3 i3 => q _ H3 (e2.trans e3) (.cons (i2.mono e3) i3)
theorem ed_tup {ta : TA} (h : EvDs ta σ H ds) (hl : ds.length ≤ 100000) : EvD (tTup ta) σ H (.tuple ds) := fun H1 e _ q =>
  h H1 e _ fun vs H2 e2 i2 => ⟨sz_of (by rw [i2.length]; exact hl), fun p hp => q _ _ (e2.trans (Ex.new hp)) (.tup upd_same (i2.mono (Ex.new hp)))⟩
theorem en_lst {ta : TA} (h : EvDs ta σ H ds) (hl : ds.length ≤ 100000) : EvN (tLst ta) σ H ds := fun H1 e _ q =>
  h H1 e _ fun vs H2 e2 i2 => ⟨sz_of (by rw [i2.length]; exact hl), fun p hp => q _ _ _ (fresh_back e2 hp) (e2.trans (Ex.new hp)) upd_same (i2.mono (Ex.new hp))⟩
/-- an operator on two values -/
theorem ed_op {r : R2} (ha : EvD ta σ H d) (hb : EvD tb σ H e') (hr : ∀ x y H1, Ex H H1 → Im H1 x d → Im H1 y e' → ∀ Q : VK, (∀ v H2, Ex H1 H2 → Im H2 v d' → Q v H2) → r x y H1 Q) : EvD (tOp r ta tb) σ H d' := fun H1 e Q q =>
  ha H1 e _ fun x H2 e2 i2 => hb H2 (e.trans e2) _ fun y H3 e3 i3 => hr x y H3 ((e.trans e2).trans e3) (i2.mono e3) i3 Q fun v H4 e4 i4 => q v H4 ((e2.trans e3).trans e4) i4
theorem en_op {r : R2} (ha : EvD ta σ H d) (hb : EvD tb σ H e') (hr : ∀ x y H1, Ex H H1 → Im H1 x d → Im H1 y e' → ∀ Q : VK, (∀ p xs H2, H1 p = none → Ex H1 H2 → H2 p = some (.lst xs) → Ims H2 xs ds → Q (.ref p) H2) → r x y H1 Q) : EvN (tOp r ta tb) σ H ds := fun H1 e Q q =>
  ha H1 e _ fun x H2 e2 i2 => hb H2 (e.trans e2) _ fun y H3 e3 i3 => hr x y H3 ((e.trans e2).trans e3) (i2.mono e3) i3 Q fun p xs H4 n4 e4 i4 i5 => q p xs H4 (fresh_back (e2.trans e3) n4) ((e2.trans e3).trans e4) i4 i5
/-- ints -/
theorem ed_I0 {g : Int → Int → Int} {i j : Int} (ha : EvD ta σ H (.int i)) (hb : EvD tb σ H (.int j)) : EvD (tOp (rI0 fun i j => .int (g i j)) ta tb) σ H (.int (g i j)) :=
  ed_op ha hb fun x y H1 e hx hy Q q => ⟨i, j, hx.i, hy.i, q _ H1 (Ex.refl H1) (.int _)⟩
theorem ed_B0 {g : Int → Int → Bool} {i j : Int} (ha : EvD ta σ H (.int i)) (hb : EvD tb σ H (.int j)) : EvD (tOp (rI0 fun i j => .bl (g i j)) ta tb) σ H (.bool (g i j)) :=
  ed_op ha hb fun x y H1 e hx hy Q q => ⟨i, j, hx.i, hy.i, q _ H1 (Ex.refl H1) (.bl _)⟩
theorem ed_I {C : Int → Int → Prop} {g : Int → Int → Int} {i j : Int} (ha : EvD ta σ H (.int i)) (hb : EvD tb σ H (.int j)) (hc : C i j) : EvD (tOp (rI C fun i j => .int (g i j)) ta tb) σ H (.int (g i j)) :=
  ed_op ha hb fun x y H1 e hx hy Q q => ⟨i, j, hx.i, hy.i, hc, q _ H1 (Ex.refl H1) (.int _)⟩
/-- == of two texts, two ints -/
theorem ed_eqS {a b : Str} (ha : EvD ta σ H (.str a)) (hb : EvD tb σ H (.str b)) : EvD (tOp rEq ta tb) σ H (.bool (decide (a = b))) :=
  ed_op ha hb fun x y H1 e hx hy Q q => by
    rw [hx.s, hy.s]
    refine ⟨rfl, ?_⟩
    have h := q _ H1 (Ex.refl H1) (.bl (decide (a = b)))
    have e2 : decide (V.str a = V.str b) = decide (a = b) := by by_cases c : a = b <;> simp [c]
    rw [e2]; exact h
theorem ed_neS {a b : Str} (ha : EvD ta σ H (.str a)) (hb : EvD tb σ H (.str b)) : EvD (tOp rNe ta tb) σ H (.bool (!decide (a = b))) :=
  ed_op ha hb fun x y H1 e hx hy Q q => by
    rw [hx.s, hy.s]
    refine ⟨rfl, ?_⟩
    have h := q _ H1 (Ex.refl H1) (.bl (!decide (a = b)))
    have e2 : decide (V.str a = V.str b) = decide (a = b) := by by_cases c : a = b <;> simp [c]
    rw [e2]; exact h
theorem ed_eqI {a b : Int} (ha : EvD ta σ H (.int a)) (hb : EvD tb σ H (.int b)) : EvD (tOp rEq ta tb) σ H (.bool (decide (a = b))) :=
  ed_op ha hb fun x y H1 e hx hy Q q => by
    rw [hx.i, hy.i]
    refine ⟨rfl, ?_⟩
    have h := q _ H1 (Ex.refl H1) (.bl (decide (a = b)))
    have e2 : decide (V.int a = V.int b) = decide (a = b) := by by_cases c : a = b <;> simp [c]
    rw [e2]; exact h
theorem ed_neI {a b : Int} (ha : EvD ta σ H (.int a)) (hb : EvD tb σ H (.int b)) : EvD (tOp rNe ta tb) σ H (.bool (!decide (a = b))) :=
  ed_op ha hb fun x y H1 e hx hy Q q => by
    rw [hx.i, hy.i]
    refine ⟨rfl, ?_⟩
    have h := q _ H1 (Ex.refl H1) (.bl (!decide (a = b)))
    have e2 : decide (V.int a = V.int b) = decide (a = b) := by by_cases c : a = b <;> simp [c]
    rw [e2]; exact h
theorem ed_neB {a b : Bool} (ha : EvD ta σ H (.bool a)) (hb : EvD tb σ H (.bool b)) : EvD (tOp rNe ta tb) σ H (.bool (!decide (a = b))) :=
  ed_op ha hb fun x y H1 e hx hy Q q => by
    rw [hx.b, hy.b]
    refine ⟨rfl, ?_⟩
    have h := q _ H1 (Ex.refl H1) (.bl (!decide (a = b)))
    have e2 : decide (V.bl a = V.bl b) = decide (a = b) := by by_cases c : a = b <;> simp [c]
    rw [e2]; exact h
/-- == of data -/
theorem ed_eqD {d e' : PyData} (ha : EvD ta σ H d) (hb : EvD tb σ H e') (s1 : SeqAt.shaped d = true) (s2 : SeqAt.shaped e' = true) : EvD (tOp (rEqD K) ta tb) σ H (.bool (PyData.eqv d e')) :=
  ed_op ha hb fun x y H1 e hx hy Q q => ⟨d, e', hx.dp, hy.dp, s1, s2, q _ H1 (Ex.refl H1) (.bl _)⟩
theorem ed_neD {d e' : PyData} (ha : EvD ta σ H d) (hb : EvD tb σ H e') (s1 : SeqAt.shaped d = true) (s2 : SeqAt.shaped e' = true) : EvD (tOp (rNeD K) ta tb) σ H (.bool (!PyData.eqv d e')) :=
  ed_op ha hb fun x y H1 e hx hy Q q => ⟨d, e', hx.dp, hy.dp, s1, s2, q _ H1 (Ex.refl H1) (.bl _)⟩
/-- is None -/
def rIsN' : R2 := fun x y H Q => y = .non ∧ Q (.bl (decide (x = .non))) H
theorem ed_isN (ha : EvD ta σ H d) : EvD (tOp (fun x y H Q => y = .non ∧ Q (.bl (decide (x = .non))) H) ta (tC .non)) σ H (.bool (match d with | .none => true | _ => false)) :=
  ed_op ha ed_n fun x y H1 e hx hy Q q => ⟨hy.n, by
    cases hx <;> exact q _ H1 (Ex.refl H1) (.bl _)⟩
theorem ed_notN (ha : EvD ta σ H d) : EvD (tOp (fun x y H Q => y = .non ∧ Q (.bl (!decide (x = .non))) H) ta (tC .non)) σ H (.bool (match d with | .none => false | _ => true)) :=
  ed_op ha ed_n fun x y H1 e hx hy Q q => ⟨hy.n, by
    cases hx <;> exact q _ H1 (Ex.refl H1) (.bl _)⟩
/-- texts: <, >=, + -/
theorem ed_ltS {a b : Str} (ha : EvD ta σ H (.str a)) (hb : EvD tb σ H (.str b)) : EvD (tOp (fun x y H Q => ∃ i j, x = .str i ∧ y = .str j ∧ Q (.bl (decide (i.cps.toList < j.cps.toList))) H) ta tb) σ H (.bool (decide (a.cps.toList < b.cps.toList))) :=
  ed_op ha hb fun x y H1 e hx hy Q q => ⟨a, b, hx.s, hy.s, q _ H1 (Ex.refl H1) (.bl _)⟩
theorem ed_gtS {a b : Str} (ha : EvD ta σ H (.str a)) (hb : EvD tb σ H (.str b)) : EvD (tOp (fun x y H Q => ∃ i j, x = .str i ∧ y = .str j ∧ Q (.bl (decide (j.cps.toList < i.cps.toList))) H) ta tb) σ H (.bool (decide (b.cps.toList < a.cps.toList))) :=
  ed_op ha hb fun x y H1 e hx hy Q q => ⟨a, b, hx.s, hy.s, q _ H1 (Ex.refl H1) (.bl _)⟩
theorem ed_geS {a b : Str} (ha : EvD ta σ H (.str a)) (hb : EvD tb σ H (.str b)) : EvD (tOp (fun x y H Q => ∃ i j, x = .str i ∧ y = .str j ∧ Q (.bl (!decide (i.cps.toList < j.cps.toList))) H) ta tb) σ H (.bool (!decide (a.cps.toList < b.cps.toList))) :=
  ed_op ha hb fun x y H1 e hx hy Q q => ⟨a, b, hx.s, hy.s, q _ H1 (Ex.refl H1) (.bl _)⟩
theorem ed_addS {a b : Str} (ha : EvD ta σ H (.str a)) (hb : EvD tb σ H (.str b)) (hz : a.length + b.length ≤ 100000) : EvD (tOp (fun x y H Q => ∃ i j, x = .str i ∧ y = .str j ∧ i.length + j.length ≤ sizeLine ∧ Q (.str (i ++ j)) H) ta tb) σ H (.str (a ++ b)) :=
  ed_op ha hb fun x y H1 e hx hy Q q => ⟨a, b, hx.s, hy.s, sz_of hz, q _ H1 (Ex.refl H1) (.str _)⟩
/-- one sign in a text -/
theorem ed_inSign {c : Nat} {b : Str} (ha : EvD ta σ H (.str ⟨#[c]⟩)) (hb : EvD tb σ H (.str b)) : EvD (tOp (fun x y H Q => ∃ (c : Nat) (z : Str), x = .str ⟨#[c]⟩ ∧ y = .str z ∧ Q (.bl (decide (c ∈ z.cps.toList))) H) ta tb) σ H (.bool (decide (c ∈ b.cps.toList))) :=
  ed_op ha hb fun x y H1 e hx hy Q q => ⟨c, b, hx.s, hy.s, q _ H1 (Ex.refl H1) (.bl _)⟩
/-- a text in a tuple or list of texts -/
theorem inV_strs (a : Str) : ∀ ss : List Str, inV (.str a) (ss.map V.str) = decide (a ∈ ss)
  | [] => rfl
  | s :: ss => by
    have ih := inV_strs a ss
    unfold inV at ih ⊢
    rw [List.map_cons, List.any_cons, ih]
    by_cases c : a = s
    · subst c; simp [eqV]
    · have c' : ¬ s = a := fun z => c z.symm
      simp [eqV, c, c']
theorem flat_strs : ∀ ss : List Str, (ss.map V.str).all flatV = true
  | [] => rfl
  | s :: ss => by rw [List.map_cons, List.all_cons, flat_strs ss]; rfl
theorem ed_inT {a : Str} {ss : List Str} (ha : EvD ta σ H (.str a)) (hb : EvD tb σ H (.tuple (ss.map .str))) : EvD (tOp (rIn K false) ta tb) σ H (.bool (decide (a ∈ ss))) :=
  ed_op ha hb fun x y H1 e hx hy Q q => by
    obtain ⟨p, xs, rfl, h1, h2⟩ := hy.t
    have ex := h2.strs; subst ex; rw [hx.s]
    refine ⟨p, _, rfl, .inr (SqT.of h1), rfl, flat_strs ss, ?_⟩
    have h := q _ H1 (Ex.refl H1) (.bl (decide (a ∈ ss)))
    show Q (.bl (inV (.str a) (ss.map V.str))) H1
    rw [inV_strs]; exact h
theorem ed_niT {a : Str} {ss : List Str} (ha : EvD ta σ H (.str a)) (hb : EvD tb σ H (.tuple (ss.map .str))) : EvD (tOp (rIn K true) ta tb) σ H (.bool (!decide (a ∈ ss))) :=
  ed_op ha hb fun x y H1 e hx hy Q q => by
    obtain ⟨p, xs, rfl, h1, h2⟩ := hy.t
    have ex := h2.strs; subst ex; rw [hx.s]
    refine ⟨p, _, rfl, .inr (SqT.of h1), rfl, flat_strs ss, ?_⟩
    have h := q _ H1 (Ex.refl H1) (.bl (!decide (a ∈ ss)))
    show Q (.bl (!inV (.str a) (ss.map V.str))) H1
    rw [inV_strs]; exact h
theorem ed_inL {a : Str} {ss : List Str} (ha : EvD ta σ H (.str a)) (hb : EvD tb σ H (.list (ss.map .str))) : EvD (tOp (rIn K false) ta tb) σ H (.bool (decide (a ∈ ss))) :=
  ed_op ha hb fun x y H1 e hx hy Q q => by
    obtain ⟨p, xs, rfl, h1, h2⟩ := hy.l
    have ex := h2.strs; subst ex; rw [hx.s]
    refine ⟨p, _, rfl, .inl (SqL.of h1), rfl, flat_strs ss, ?_⟩
    have h := q _ H1 (Ex.refl H1) (.bl (decide (a ∈ ss)))
    show Q (.bl (inV (.str a) (ss.map V.str))) H1
    rw [inV_strs]; exact h
/-- subscripts -/
theorem atI_im {xs : List V} {i : Int} (h : Ims H xs ds) (ha : atI ds i = some d) : ∃ v, atI xs i = some v ∧ Im H v d := by
  unfold atI at ha ⊢
  rw [h.length]
  cases e : ixN ds.length i with
  | none => rw [e] at ha; cases ha
  | some j =>
    rw [e] at ha
    exact h.getD ha
theorem ed_ixT {i : Int} (ha : EvD ta σ H (.tuple ds)) (hb : EvD tb σ H (.int i)) (hi : atI ds i = some d) : EvD (tOp (rIxT K) ta tb) σ H d :=
  ed_op ha hb fun x y H1 e hx hy Q q => by
    obtain ⟨p, xs, rfl, h1, h2⟩ := hx.t
    obtain ⟨v, hv, iv⟩ := atI_im h2 hi
    exact ⟨p, xs, i, v, rfl, hy.i, SqT.of h1, hv, q _ H1 (Ex.refl H1) iv⟩
theorem ed_ixL {i : Int} (ha : EvD ta σ H (.list ds)) (hb : EvD tb σ H (.int i)) (hi : atI ds i = some d) : EvD (tOp (rIxL K) ta tb) σ H d :=
  ed_op ha hb fun x y H1 e hx hy Q q => by
    obtain ⟨p, xs, rfl, h1, h2⟩ := hx.l
    obtain ⟨v, hv, iv⟩ := atI_im h2 hi
    exact ⟨p, xs, i, v, rfl, hy.i, SqL.of h1, hv, q _ H1 (Ex.refl H1) iv⟩
/-- list + list, tuple + tuple -/
theorem en_cat (ha : EvD ta σ H (.list ds)) (hb : EvD tb σ H (.list es)) (hz : ds.length + es.length ≤ 100000) : EvN (tOp rCat ta tb) σ H (ds ++ es) :=
  en_op ha hb fun x y H1 e hx hy Q q => by
    obtain ⟨p, xs, rfl, h1, h2⟩ := hx.l
    obtain ⟨p', xs', rfl, h1', h2'⟩ := hy.l
    refine ⟨p, p', xs, xs', rfl, rfl, h1, h1', sz_of (by rw [h2.length, h2'.length]; exact hz), fun r hr => q r _ _ hr (Ex.new hr) upd_same ((h2.append h2').mono (Ex.new hr))⟩
theorem ed_catA (ha : EvD ta σ H (.tuple ds)) (hb : EvD tb σ H (.tuple es)) (hz : ds.length + es.length ≤ 100000) : EvD (tOp (rCatA K) ta tb) σ H (.tuple (ds ++ es)) :=
  ed_op ha hb fun x y H1 e hx hy Q q => by
    obtain ⟨p, xs, rfl, h1, h2⟩ := hx.t
    obtain ⟨p', xs', rfl, h1', h2'⟩ := hy.t
    refine ⟨p, p', xs, xs', rfl, rfl, SqT.of h1, SqT.of h1', sz_of (by rw [h2.length, h2'.length]; exact hz), fun z => ?_, fun _ z => ?_, fun _ _ r hr => ?_⟩
    · subst z; cases h2; exact q _ H1 (Ex.refl H1) (.tup h1' h2')
    · subst z; cases h2'; rw [List.append_nil] at q; exact q _ H1 (Ex.refl H1) (.tup h1 h2)
    · exact q _ _ (Ex.new hr) (.tup upd_same ((h2.append h2').mono (Ex.new hr)))
/-- slices -/
def cutD (ds : List PyData) (lo hi : Option Int) : List PyData := (ds.drop (HT.sIx ds.length 0 lo)).take (HT.sIx ds.length ds.length hi - HT.sIx ds.length 0 lo)
theorem Ims.cut {xs : List V} (h : Ims H xs ds) (lo hi : Option Int) : Ims H (cutV xs lo hi) (cutD ds lo hi) := by
  unfold cutV cutD
  rw [h.length]
  exact (h.drop _).take _
theorem en_slL {tl th : TO} {lo hi : Option Int} (h : EvD te σ H (.list ds)) (h1 : EvO tl σ H lo) (h2 : EvO th σ H hi) : EvN (tSl (rSlL K) te tl th) σ H (cutD ds lo hi) := fun H1 e Q q =>
  h H1 e _ fun v H2 e2 i2 => h1 H2 (e.trans e2) _ fun H3 e3 => h2 H3 ((e.trans e2).trans e3) _ fun H4 e4 => by
    obtain ⟨p, xs, rfl, g1, g2⟩ := ((i2.mono e3).mono e4).l
    exact ⟨p, xs, rfl, SqL.of g1, fun r hr => q r _ _ (fresh_back ((e2.trans e3).trans e4) hr) (((e2.trans e3).trans e4).trans (Ex.new hr)) upd_same ((g2.cut lo hi).mono (Ex.new hr))⟩
theorem sIx_whole {n : Nat} {lo hi : Option Int} (h : HT.sIx n 0 lo = 0 ∧ HT.sIx n n hi = n) (l : List PyData) (hl : l.length = n) : cutD l lo hi = l := by
  subst hl
  unfold cutD
  rw [h.1, h.2, List.drop_zero, Nat.sub_zero, List.take_length]
theorem ed_slA {tl th : TO} {lo hi : Option Int} (h : EvD te σ H (.tuple ds)) (h1 : EvO tl σ H lo) (h2 : EvO th σ H hi) : EvD (tSl (rSlA K) te tl th) σ H (.tuple (cutD ds lo hi)) := fun H1 e Q q =>
  h H1 e _ fun v H2 e2 i2 => h1 H2 (e.trans e2) _ fun H3 e3 => h2 H3 ((e.trans e2).trans e3) _ fun H4 e4 => by
    obtain ⟨p, xs, rfl, g1, g2⟩ := ((i2.mono e3).mono e4).t
    refine ⟨p, xs, rfl, SqT.of g1, fun z => ?_, fun _ r hr => q _ _ (((e2.trans e3).trans e4).trans (Ex.new hr)) (.tup upd_same ((g2.cut lo hi).mono (Ex.new hr)))⟩
    rw [g2.length] at z
    rw [sIx_whole z ds rfl] at q
    exact q _ H4 ((e2.trans e3).trans e4) (.tup g1 g2)
theorem ed_slS {tl th : TO} {a : Str} {lo hi : Option Int} (h : EvD te σ H (.str a)) (hz : a.length ≤ 100000) (h1 : EvO tl σ H lo) (h2 : EvO th σ H hi) : EvD (tSl rSlS te tl th) σ H (.str (cutS a lo hi)) := fun H1 e Q q =>
  h H1 e _ fun v H2 e2 i2 => h1 H2 (e.trans e2) _ fun H3 e3 => h2 H3 ((e.trans e2).trans e3) _ fun H4 e4 =>
    ⟨a, i2.s, sz_of hz, q _ H4 ((e2.trans e3).trans e4) (.str _)⟩
theorem eo_i {i : Int} (h : EvD te σ H (.int i)) : EvO (tPart te) σ H (some i) := fun H1 e _ q => h H1 e _ fun v H2 e2 iv => ⟨i, iv.i, q H2 e2⟩
/-- tests and truth values -/
theorem et_D {b : Bool} (h : EvD te σ H (.bool b)) : EvT (tTest te) σ H b := fun H1 e _ q => h H1 e _ fun v H2 e2 iv => ⟨b, iv.b, q H2 e2⟩
theorem et_DB {b : Bool} (h : EvD te σ H (.bool b)) : EvT (tB te) σ H b := fun H1 e _ q => h H1 e _ fun v H2 e2 iv => ⟨b, iv.b, q H2 e2⟩
theorem EvD.ev {b : Bool} (h : EvD te σ H (.bool b)) : Ev te σ H (.bl b) := fun H1 e _ q => h H1 e _ fun v H2 e2 iv => by rw [iv.b]; exact q H2 e2
theorem EvD.evI {b : Int} (h : EvD te σ H (.int b)) : Ev te σ H (.int b) := fun H1 e _ q => h H1 e _ fun v H2 e2 iv => by rw [iv.i]; exact q H2 e2
theorem EvD.evS {b : Str} (h : EvD te σ H (.str b)) : Ev te σ H (.str b) := fun H1 e _ q => h H1 e _ fun v H2 e2 iv => by rw [iv.s]; exact q H2 e2
theorem EvD.of_ev (h : Ev te σ H v) (iv : Im H v d) : EvD te σ H d := fun H1 e Q q => h H1 e Q fun H2 e2 => q v H2 e2 (iv.mono (e.trans e2))
theorem ed_and {a b : Bool} (h1 : EvD ta σ H (.bool a)) (h2 : a = true → EvD tb σ H (.bool b)) : EvD (tAndV ta tb) σ H (.bool (a && b)) := fun H1 e Q q => h1 H1 e _ fun v H2 e2 iv => ⟨a, iv.b, by
  cases a with
  | true =>
    show tb σ H2 Q
    exact h2 rfl H2 (e.trans e2) Q fun v H3 e3 => q v H3 (e2.trans e3)
  | false =>
    show Q (.bl false) H2
    exact q _ H2 e2 (.bl _)⟩
theorem ed_or {a b : Bool} (h1 : EvD ta σ H (.bool a)) (h2 : a = false → EvD tb σ H (.bool b)) : EvD (tOrV ta tb) σ H (.bool (a || b)) := fun H1 e Q q => h1 H1 e _ fun v H2 e2 iv => ⟨a, iv.b, by
  cases a with
  | true =>
    show Q (.bl true) H2
    exact q _ H2 e2 (.bl _)
  | false =>
    show tb σ H2 Q
    exact h2 rfl H2 (e.trans e2) Q fun v H3 e3 => q v H3 (e2.trans e3)⟩
theorem ed_not {a : Bool} (h1 : EvD ta σ H (.bool a)) : EvD (tNotV ta) σ H (.bool (!a)) := fun H1 e _ q => h1 H1 e _ fun v H2 e2 iv => ⟨a, iv.b, q _ H2 e2 (.bl _)⟩
theorem ed_if {b : Bool} (h : EvT t σ H b) (h1 : b = true → EvD ta σ H d) (h2 : b = false → EvD tb σ H d) : EvD (tIf t ta tb) σ H d := fun H1 e Q q => h H1 e _ fun H2 e2 => by
  cases b with
  | true =>
    show ta σ H2 Q
    exact h1 rfl H2 (e.trans e2) Q fun v H3 e3 => q v H3 (e2.trans e3)
  | false =>
    show tb σ H2 Q
    exact h2 rfl H2 (e.trans e2) Q fun v H3 e3 => q v H3 (e2.trans e3)
/-- a op b op c -/
theorem ed_chain {g g' : Int → Int → Bool} {i j k : Int} {tc : TE} (ha : EvD ta σ H (.int i)) (hb : EvD tb σ H (.int j)) (hc : EvD tc σ H (.int k)) :
    EvD (tChain (rI0 fun i j => .bl (g i j)) (rI0 fun i j => .bl (g' i j)) ta tb tc) σ H (.bool (g i j && g' j k)) := fun H1 e Q q =>
  ha H1 e _ fun x H2 e2 i2 => hb H2 (e.trans e2) _ fun y H3 e3 i3 => ⟨i, j, i2.i, i3.i, g i j, rfl, by
    cases c : g i j with
    | true =>
      rw [if_pos rfl]
      refine hc H3 ((e.trans e2).trans e3) _ fun z H4 e4 i4 => ⟨j, k, i3.i, i4.i, ?_⟩
      have h := q (.bl (g' j k)) H4 ((e2.trans e3).trans e4) (by rw [c]; exact .bl _)
      exact h
    | false =>
      rw [if_neg (by decide)]
      exact q (.bl false) H3 (e2.trans e3) (by rw [c]; exact .bl _)⟩
end
end Pd
set_option Elab.async false
set_option linter.all false
set_option maxRecDepth 100000
set_option maxHeartbeats 2000000
/-! Pd2: built-ins, texts, comprehensions, loops and calls over immutable data. -/
namespace Pd
open PySem L2 Evl
section
variable {K : PySem.W.Frag} {σ : L2.St} {H H' : Hp} {ta tb te tx tl to : TE} {t u : TT} {x y z v : V} {d d' e' : PyData} {ds es : List PyData}
/-! ### built-ins -/
theorem ed_cb {r : List V → Hp → VK → Prop} {ta : TA} (h : EvDs ta σ H ds) (hr : ∀ vs H1, Ex H H1 → Ims H1 vs ds → ∀ Q : VK, (∀ v H2, Ex H1 H2 → Im H2 v d → Q v H2) → r vs H1 Q) : EvD (tCB r ta) σ H d := fun H1 e Q q =>
  h H1 e _ fun vs H2 e2 i2 => hr vs H2 (e.trans e2) i2 Q fun v H3 e3 i3 => q v H3 (e2.trans e3) i3
theorem en_cb {r : List V → Hp → VK → Prop} {ta : TA} (h : EvDs ta σ H ds) (hr : ∀ vs H1, Ex H H1 → Ims H1 vs ds → ∀ Q : VK, (∀ p xs H2, H1 p = none → Ex H1 H2 → H2 p = some (.lst xs) → Ims H2 xs es → Q (.ref p) H2) → r vs H1 Q) : EvN (tCB r ta) σ H es := fun H1 e Q q =>
  h H1 e _ fun vs H2 e2 i2 => hr vs H2 (e.trans e2) i2 Q fun p xs H3 n3 e3 i3 i4 => q p xs H3 (fresh_back e2 n3) (e2.trans e3) i3 i4
theorem Ims.one {vs : List V} (h : Ims H vs [d]) : ∃ v, vs = [v] ∧ Im H v d := by
  cases h with
  | cons h1 h2 => cases h2; exact ⟨_, rfl, h1⟩
theorem Ims.two {vs : List V} (h : Ims H vs [d, d']) : ∃ v w, vs = [v, w] ∧ Im H v d ∧ Im H w d' := by
  cases h with
  | cons h1 h2 => cases h2 with | cons h2 h3 => cases h3; exact ⟨_, _, rfl, h1, h2⟩
theorem Ims.three {d3 : PyData} {vs : List V} (h : Ims H vs [d, d', d3]) : ∃ v w u, vs = [v, w, u] ∧ Im H v d ∧ Im H w d' ∧ Im H u d3 := by
  cases h with
  | cons h1 h2 => obtain ⟨w, u, rfl, a, b⟩ := h2.two; exact ⟨_, _, _, rfl, h1, a, b⟩
theorem ed_lenS {a : Str} (h : EvD ta σ H (.str a)) (hz : a.length ≤ 100000) : EvD (tCB (fun xs H Q => ∃ z, xs = [.str z] ∧ z.length ≤ sizeLine ∧ Q (.int z.length) H) (tCons ta tNil)) σ H (.int a.length) :=
  ed_cb (ea1 h ea0) fun vs H1 e i Q q => by
    obtain ⟨v, rfl, iv⟩ := i.one
    rw [iv.s]
    exact ⟨a, rfl, sz_of hz, q _ H1 (Ex.refl H1) (.int _)⟩
theorem ed_lenT (h : EvD ta σ H (.tuple ds)) : EvD (tCB (rLenS K) (tCons ta tNil)) σ H (.int ds.length) :=
  ed_cb (ea1 h ea0) fun vs H1 e i Q q => by
    obtain ⟨v, rfl, iv⟩ := i.one
    obtain ⟨p, xs, rfl, h1, h2⟩ := iv.t
    exact ⟨p, xs, rfl, .inr (SqT.of h1), q _ H1 (Ex.refl H1) (by rw [h2.length]; exact .int _)⟩
theorem ed_lenL (h : EvD ta σ H (.list ds)) : EvD (tCB (rLenS K) (tCons ta tNil)) σ H (.int ds.length) :=
  ed_cb (ea1 h ea0) fun vs H1 e i Q q => by
    obtain ⟨v, rfl, iv⟩ := i.one
    obtain ⟨p, xs, rfl, h1, h2⟩ := iv.l
    exact ⟨p, xs, rfl, .inl (SqL.of h1), q _ H1 (Ex.refl H1) (by rw [h2.length]; exact .int _)⟩
/-- the built-in type of data -/
def tyN : PyData → String
  | .none => "NoneType"
  | .bool _ => "bool"
  | .int _ => "int"
  | .str _ => "str"
  | .list _ => "list"
  | .tuple _ => "tuple"
  | .dict _ => "dict"
theorem Im.ty (h : Im H v d) : TyX K H v (.type (tyN d)) := by
  cases h with
  | non => exact .base .non
  | bl b => exact .base (.bl b)
  | int i => exact .base (.int i)
  | str s => exact .base (.str s)
  | lst h1 _ => exact .base (.lst h1)
  | tup h1 _ => exact .base (.tup h1)
theorem ed_isi {T : String} {b : Bool} (h : EvD ta σ H d) (hb : kitB (tyN d) T = some b) : EvD (tCB (rIsi K) (tCons ta (tCons (tC (.ty T)) tNil))) σ H (.bool b) := fun H1 e Q q =>
  h H1 e _ fun v H2 e2 iv => ⟨v, .ty T, .type (tyN d), .type T, b, rfl, .ty T, iv.ty, kit_ty hb, q _ H2 e2 (.bl b)⟩
theorem all_strs : ∀ bs : List Bool, bs.all id = bs.all (fun b => b) := fun _ => rfl
theorem ed_all {bs : List Bool} (h : EvD te σ H (.list (bs.map .bool))) : EvD (tCB (rAll K) (tCons te tNil)) σ H (.bool (bs.all id)) :=
  ed_cb (ea1 h ea0) fun vs H1 e i Q q => by
    obtain ⟨v, rfl, iv⟩ := i.one
    obtain ⟨p, xs, rfl, h1, h2⟩ := iv.l
    have ex := h2.bls; subst ex
    exact ⟨p, bs, rfl, SqL.of h1, q _ H1 (Ex.refl H1) (.bl _)⟩
theorem ed_any {bs : List Bool} (h : EvD te σ H (.list (bs.map .bool))) : EvD (tCB (rAny K) (tCons te tNil)) σ H (.bool (bs.any id)) :=
  ed_cb (ea1 h ea0) fun vs H1 e i Q q => by
    obtain ⟨v, rfl, iv⟩ := i.one
    obtain ⟨p, xs, rfl, h1, h2⟩ := iv.l
    have ex := h2.bls; subst ex
    exact ⟨p, bs, rfl, SqL.of h1, q _ H1 (Ex.refl H1) (.bl _)⟩
abbrev rTupOf (K : PySem.W.Frag) : List V → Hp → VK → Prop := fun xs H Q => ∃ p ys, xs = [.ref p] ∧ ((SqL K H p ys ∧ ∀ l, H l = none → Q (.ref l) (upd H l (.tup ys))) ∨ (SqT K H p ys ∧ Q (.ref p) H))
theorem ed_tupOf (h : EvD ta σ H (.list ds)) : EvD (tCB (rTupOf K) (tCons ta tNil)) σ H (.tuple ds) :=
  ed_cb (ea1 h ea0) fun vs H1 e i Q q => by
    obtain ⟨v, rfl, iv⟩ := i.one
    obtain ⟨p, xs, rfl, h1, h2⟩ := iv.l
    exact ⟨p, xs, rfl, .inl ⟨SqL.of h1, fun l hl => q _ _ (Ex.new hl) (.tup upd_same (h2.mono (Ex.new hl)))⟩⟩
abbrev rLstOf (K : PySem.W.Frag) : List V → Hp → VK → Prop := fun xs H Q => ∃ p ys, xs = [.ref p] ∧ (SqL K H p ys ∨ SqT K H p ys) ∧ ∀ l, H l = none → Q (.ref l) (upd H l (.lst ys))
theorem en_lstOfT (h : EvD ta σ H (.tuple ds)) : EvN (tCB (rLstOf K) (tCons ta tNil)) σ H ds :=
  en_cb (ea1 h ea0) fun vs H1 e i Q q => by
    obtain ⟨v, rfl, iv⟩ := i.one
    obtain ⟨p, xs, rfl, h1, h2⟩ := iv.t
    exact ⟨p, xs, rfl, .inr (SqT.of h1), fun l hl => q l _ _ hl (Ex.new hl) upd_same (h2.mono (Ex.new hl))⟩
/-! ### texts -/
abbrev rJoin (K : PySem.W.Frag) : V → List V → Hp → VK → Prop := fun x xs H Q => ∃ a p, ∃ ys : List Str, x = .str a ∧ xs = [.ref p] ∧ (SqL K H p (ys.map V.str) ∨ SqT K H p (ys.map V.str)) ∧
    (ys.map (·.length)).sum + ys.length * a.length ≤ 16777216 ∧ Q (.str (Txt.join a ys)) H
theorem ed_joinL {a : Str} {ys : List Str} (h : EvD to σ H (.str a)) (h2 : EvD te σ H (.list (ys.map .str))) (hz : (ys.map (·.length)).sum + ys.length * a.length ≤ 16777216) : EvD (tM1 (rJoin K) to te) σ H (.str (Txt.join a ys)) := fun H1 e Q q =>
  h H1 e _ fun v H2 e2 iv => ⟨⟨a, iv.s⟩, h2 H2 (e.trans e2) _ fun w H3 e3 iw => by
    obtain ⟨p, xs, rfl, g1, g2⟩ := iw.l
    have ex := g2.strs; subst ex
    exact ⟨a, p, ys, iv.s, rfl, .inl (SqL.of g1), hz, q _ H3 (e2.trans e3) (.str _)⟩⟩
theorem ed_joinT {a : Str} {ys : List Str} (h : EvD to σ H (.str a)) (h2 : EvD te σ H (.tuple (ys.map .str))) (hz : (ys.map (·.length)).sum + ys.length * a.length ≤ 16777216) : EvD (tM1 (rJoin K) to te) σ H (.str (Txt.join a ys)) := fun H1 e Q q =>
  h H1 e _ fun v H2 e2 iv => ⟨⟨a, iv.s⟩, h2 H2 (e.trans e2) _ fun w H3 e3 iw => by
    obtain ⟨p, xs, rfl, g1, g2⟩ := iw.t
    have ex := g2.strs; subst ex
    exact ⟨a, p, ys, iv.s, rfl, .inr (SqT.of g1), hz, q _ H3 (e2.trans e3) (.str _)⟩⟩
abbrev rSplit : V → List V → Hp → VK → Prop := fun x xs H Q => ∃ a b, x = .str a ∧ xs = [.str b] ∧ (b.length == 0) = false ∧ a.length + 2 ≤ sizeLine ∧ rNewStrs (Txt.split a b) H Q
theorem en_split {a b : Str} (h : EvD to σ H (.str a)) (h2 : EvD te σ H (.str b)) (hb : (b.length == 0) = false) (hz : a.length + 2 ≤ 100000) : EvN (tM1 rSplit to te) σ H ((Txt.split a b).map .str) := fun H1 e Q q =>
  h H1 e _ fun v H2 e2 iv => ⟨⟨a, iv.s⟩, h2 H2 (e.trans e2) _ fun w H3 e3 iw =>
    ⟨a, b, iv.s, by rw [iw.s], hb, sz_of hz, fun p hp => q p _ _ (fresh_back (e2.trans e3) hp) ((e2.trans e3).trans (Ex.new hp)) upd_same (Ims.ofStrs _)⟩⟩
abbrev rUpper : V → List V → Hp → VK → Prop := fun x xs H Q => ∃ a, x = .str a ∧ xs = [] ∧ a.length ≤ 5592405 ∧ Q (.str (Txt.upper a)) H
theorem ed_upper {a : Str} (h : EvD to σ H (.str a)) (hz : a.length ≤ 100000) : EvD (tM0 rUpper to) σ H (.str (Txt.upper a)) := fun H1 e Q q =>
  h H1 e _ fun v H2 e2 iv => ⟨⟨a, iv.s⟩, a, iv.s, rfl, by omega, q _ H2 e2 (.str _)⟩
/-! ### calls of pure defs -/
def SpP (dom : List PyData → Prop) (f : List PyData → PyData) : Sp := fun vs H Q _ => ∃ ds, Ims H vs ds ∧ dom ds ∧ ∀ v H', Ex H H' → Im H' v (f ds) → Q v H'
theorem ed_call {dom : List PyData → Prop} {f : List PyData → PyData} {E : XK} {ta : TA} (h : EvDs ta σ H ds) (hd : dom ds) : EvD (tCall (SpP dom f) [] E ta) σ H (f ds) := fun H1 e Q q =>
  h H1 e _ fun vs H2 e2 i2 => ⟨ds, by rw [List.append_nil]; exact i2, hd, fun v H3 e3 i3 => q v H3 (e2.trans e3) i3⟩
/-- by a relation of arguments and result -/
def SpQ (R : List PyData → PyData → Prop) : Sp := fun vs H Q _ => ∃ ds d, Ims H vs ds ∧ R ds d ∧ ∀ v H', Ex H H' → Im H' v d → Q v H'
theorem ed_callQ {R : List PyData → PyData → Prop} {E : XK} {ta : TA} (h : EvDs ta σ H ds) (hd : R ds d) : EvD (tCall (SpQ R) [] E ta) σ H d := fun H1 e Q q =>
  h H1 e _ fun vs H2 e2 i2 => ⟨ds, d, by rw [List.append_nil]; exact i2, hd, fun v H3 e3 i3 => q v H3 (e2.trans e3) i3⟩
theorem SpQ.len {R : List PyData → PyData → Prop} {n : Nat} (h : ∀ ds d, R ds d → ds.length = n) : ∀ vs H Q E, SpQ R vs H Q E → vs.length = n := fun vs H Q E ⟨ds, d, i, r, _⟩ => by rw [i.length]; exact h ds d r
/-- slices of data -/
theorem cutD_from (k : Nat) (ds : List PyData) : cutD ds (some (k : Int)) none = ds.drop k := by
  unfold cutD
  rw [HT.sIx_nat, HT.sIx_none]
  rcases Nat.le_total k ds.length with h | h
  · rw [Nat.min_eq_left h, List.take_of_length_le (by simp)]
  · rw [Nat.min_eq_right h]
    simp [List.drop_eq_nil_of_le h]
theorem cutD_to (k : Nat) (ds : List PyData) : cutD ds none (some (k : Int)) = ds.take k := by
  unfold cutD
  rw [HT.sIx_nat, HT.sIx_none, List.drop_zero, Nat.sub_zero]
  rcases Nat.le_total k ds.length with h | h
  · rw [Nat.min_eq_left h]
  · rw [Nat.min_eq_right h, List.take_of_length_le (Nat.le_refl _), List.take_of_length_le h]
theorem cutD_init (ds : List PyData) : cutD ds none (some (-1)) = ds.dropLast := by
  unfold cutD
  have e : HT.sIx ds.length ds.length (some (-1)) = ds.length - 1 := by
    show (if (-1 : Int) < 0 then ((-1 : Int) + (ds.length : Int)).toNat else min (-1 : Int).toNat ds.length) = ds.length - 1
    rw [if_pos (by omega)]
    omega
  rw [e, HT.sIx_none, List.drop_zero, Nat.sub_zero, List.dropLast_eq_take]
/-- shapes -/
theorem shaped_strs {ss : List Str} (h : ∀ w ∈ ss, PyData.strOk w = true) : SeqAt.shaped (.tuple (ss.map .str)) = true := by
  have c : ∀ l : List Str, (∀ w ∈ l, PyData.strOk w = true) → PyData.canLayAll0 (l.map .str) = true ∧ PyData.depthAll (l.map .str) = 0 := by
    intro l
    induction l with
    | nil => intro _; exact ⟨by simp [PyData.canLayAll0], by simp [PyData.depthAll]⟩
    | cons a l ih =>
      intro hl
      obtain ⟨i1, i2⟩ := ih fun w hw => hl w (List.mem_cons_of_mem _ hw)
      have ha := hl a (List.mem_cons_self ..)
      exact ⟨by simp [PyData.canLayAll0, PyData.canLay0, ha, i1], by simp [PyData.depthAll, PyData.depth, i2]⟩
  obtain ⟨c1, c2⟩ := c ss h
  unfold SeqAt.shaped
  simp [PyData.canLay0, PyData.depth, c1, c2]
theorem shaped_rows {sss : List (List Str)} (h : ∀ ss ∈ sss, ∀ w ∈ ss, PyData.strOk w = true) : SeqAt.shaped (.tuple (sss.map fun ss => .tuple (ss.map .str))) = true := by
  have c : ∀ l : List (List Str), (∀ ss ∈ l, ∀ w ∈ ss, PyData.strOk w = true) → PyData.canLayAll0 (l.map fun ss => .tuple (ss.map .str)) = true ∧ PyData.depthAll (l.map fun ss => .tuple (ss.map .str)) ≤ 63 := by
    intro l
    induction l with
    | nil => intro _; exact ⟨by simp [PyData.canLayAll0], by simp [PyData.depthAll]⟩
    | cons a l ih =>
      intro hl
      obtain ⟨i1, i2⟩ := ih fun w hw => hl w (List.mem_cons_of_mem _ hw)
      have ha := shaped_strs (hl a (List.mem_cons_self ..))
      unfold SeqAt.shaped at ha
      simp only [Bool.and_eq_true, decide_eq_true_eq] at ha
      have hd : PyData.depth (.tuple (a.map .str)) ≤ 63 := by
        have z : ∀ m : List Str, PyData.depthAll (m.map .str) = 0 := by
          intro m
          induction m with
          | nil => simp [PyData.depthAll]
          | cons b m ih2 => simp [PyData.depthAll, PyData.depth, ih2]
        simp [PyData.depth, z a]
      refine ⟨by simp only [List.map_cons, PyData.canLayAll0, ha.1, i1, Bool.and_self], ?_⟩
      simp only [List.map_cons, PyData.depthAll]
      omega
  obtain ⟨c1, c2⟩ := c sss h
  unfold SeqAt.shaped
  have e : decide (PyData.depth (.tuple (sss.map fun ss => .tuple (ss.map .str))) ≤ 64) = true := by
    rw [decide_eq_true_eq]
    show PyData.depthAll (sss.map fun ss => .tuple (ss.map .str)) + 1 ≤ 64
    omega
  rw [e]
  show (PyData.canLayAll0 (sss.map fun ss => .tuple (ss.map .str)) && true) = true
  rw [c1]; rfl
theorem eqv_nil (ds : List PyData) : PyData.eqv (.tuple ds) (.tuple []) = ds.isEmpty := by
  cases ds <;> simp [PyData.eqv, PyData.eqvAll]
theorem shaped_nil : SeqAt.shaped (.tuple []) = true := by decide
/-! ### what is walked -/
/-- wi walks data src -/
def Wk (wi : TI) (σ : L2.St) (H : Hp) (src : List PyData) : Prop := ∀ H1, Ex H H1 → ∀ R : It → Hp → Prop,
  (∀ J H2 G Y, Ex H1 H2 → Walk J src.length G Y → (∀ H3, Ex H2 H3 → G H3) → (∀ i H3 x H4, Ex H2 H3 → Y i H3 x H4 → Ex H3 H4 ∧ ∃ d, src[i]? = some d ∧ Im H4 x d) → R J H2) → wi σ H1 R
theorem Wk.mono {wi : TI} {src : List PyData} (e : Ex H H') (h : Wk wi σ H src) : Wk wi σ H' src := fun H1 a R r => h H1 (e.trans a) R r
theorem wk_tup (h : EvD tl σ H (.tuple ds)) : Wk (iTup K tl) σ H ds := fun H1 e R r =>
  h H1 e _ fun v H2 e2 iv => by
    obtain ⟨p, xs, rfl, g1, g2⟩ := iv.t
    refine ⟨p, rfl, ⟨xs, SqT.of g1⟩, r _ H2 (fun H => SqT K H p xs) (YAt xs) e2 (by rw [← g2.length]; exact walk_tup) (fun H3 e3 => SqT.of (e3 _ _ g1)) fun i H3 x H4 e3 yy => ?_⟩
    obtain ⟨rfl, hx⟩ := yy
    obtain ⟨d, hd, im⟩ := (g2.mono e3).get hx
    exact ⟨Ex.refl _, d, hd, im⟩
theorem wk_list (h : EvD tl σ H (.list ds)) : Wk (iList K tl) σ H ds := fun H1 e R r =>
  h H1 e _ fun v H2 e2 iv => by
    obtain ⟨p, xs, rfl, g1, g2⟩ := iv.l
    refine ⟨p, rfl, ⟨xs, SqL.of g1⟩, r _ H2 (fun H => SqL K H p xs) (YAt xs) e2 (by rw [← g2.length]; exact walk_list) (fun H3 e3 => SqL.of (e3 _ _ g1)) fun i H3 x H4 e3 yy => ?_⟩
    obtain ⟨rfl, hx⟩ := yy
    obtain ⟨d, hd, im⟩ := (g2.mono e3).get hx
    exact ⟨Ex.refl _, d, hd, im⟩
/-- a text's signs -/
def signs (z : Str) : List PyData := z.cps.toList.map fun c => .str ⟨#[c]⟩
theorem wk_str {z : Str} (h : EvD tl σ H (.str z)) : Wk (iStr tl) σ H (signs z) := fun H1 e R r =>
  h H1 e _ fun v H2 e2 iv => by
    refine ⟨z, iv.s, r _ H2 (fun _ => True) (fun i H v H' => H' = H ∧ ∃ c, z.cps[i]? = some c ∧ v = .str ⟨#[c]⟩) e2 (by
      have : (signs z).length = z.cps.size := by simp [signs]
      rw [this]; exact walk_str) (fun _ _ => trivial) fun i H3 x H4 e3 yy => ?_⟩
    obtain ⟨rfl, c, hc, rfl⟩ := yy
    refine ⟨Ex.refl _, .str ⟨#[c]⟩, ?_, .str _⟩
    unfold signs
    rw [List.getElem?_map]
    have : z.cps.toList[i]? = some c := by simpa using hc
    rw [this]; rfl
theorem zip_get {α β : Type} : ∀ {xs : List α} {ys : List β} {i : Nat} {x : α} {y : β}, xs[i]? = some x → ys[i]? = some y → (xs.zip ys)[i]? = some (x, y)
  | [], _, _, _, _, h, _ => by simp at h
  | _ :: _, [], _, _, _, _, h => by simp at h
  | x :: xs, y :: ys, 0, _, _, h1, h2 => by simp at h1 h2; subst h1; subst h2; rfl
  | x :: xs, y :: ys, i + 1, _, _, h1, h2 => by simp at h1 h2; simpa using zip_get h1 h2
def pairs (ds es : List PyData) : List PyData := (ds.zip es).map fun p => .tuple [p.1, p.2]
theorem wk_zipT {ta : TA} (h : EvDs ta σ H [.tuple ds, .tuple es]) : Wk (RZ.iZipA K ta) σ H (pairs ds es) := fun H1 e R r =>
  h H1 e _ fun vs H2 e2 iv => by
    obtain ⟨v, w, rfl, i1, i2⟩ := iv.two
    obtain ⟨p, xs, rfl, g1, g2⟩ := i1.t
    obtain ⟨p', xs', rfl, g1', g2'⟩ := i2.t
    refine ⟨p, p', xs, xs', rfl, .inr ⟨SqT.of g1, SqT.of g1', r _ H2 (fun H => SqT K H p xs ∧ SqT K H p' xs') (YPair (fun i => xs[i]?) (fun i => xs'[i]?)) e2 ?_ (fun H3 e3 => ⟨SqT.of (e3 _ _ g1), SqT.of (e3 _ _ g1')⟩) fun i H3 x H4 e3 yy => ?_⟩⟩
    · have hn : (pairs ds es).length = min xs.length xs'.length := by simp [pairs, g2.length, g2'.length]
      rw [hn]
      refine ⟨fun i _ hi q => ?_, fun _ q => ⟨xs, xs', q.1, q.2, by omega⟩, fun i H v H' _ q y => ?_⟩
      · have h1 : i < xs.length := by omega
        have h2 : i < xs'.length := by omega
        exact ⟨xs, xs', xs[i], xs'[i], q.1, q.2, by simp [h1], by simp [h2]⟩
      · obtain ⟨T, x, z, h1, h2, h3, h4, h5⟩ := y
        exact ⟨T, x, z, h1, h2, h3, h4 xs q.1, h5 xs' q.2⟩
    · obtain ⟨T, a, b, rfl, hT, rfl, ha, hb⟩ := yy
      obtain ⟨d1, hd1, im1⟩ := (g2.mono e3).get ha
      obtain ⟨d2, hd2, im2⟩ := (g2'.mono e3).get hb
      refine ⟨Ex.new hT, .tuple [d1, d2], ?_, .tup upd_same (.cons (im1.mono (Ex.new hT)) (.cons (im2.mono (Ex.new hT)) .nil))⟩
      unfold pairs
      rw [List.getElem?_map, zip_get hd1 hd2] <;> rfl
theorem wk_zipL {ta : TA} (h : EvDs ta σ H [.list ds, .list es]) : Wk (RZ.iZipA K ta) σ H (pairs ds es) := fun H1 e R r =>
  h H1 e _ fun vs H2 e2 iv => by
    obtain ⟨v, w, rfl, i1, i2⟩ := iv.two
    obtain ⟨p, xs, rfl, g1, g2⟩ := i1.l
    obtain ⟨p', xs', rfl, g1', g2'⟩ := i2.l
    refine ⟨p, p', xs, xs', rfl, .inl ⟨SqL.of g1, SqL.of g1', r _ H2 (fun H => SqL K H p xs ∧ SqL K H p' xs') (YPair (fun i => xs[i]?) (fun i => xs'[i]?)) e2 ?_ (fun H3 e3 => ⟨SqL.of (e3 _ _ g1), SqL.of (e3 _ _ g1')⟩) fun i H3 x H4 e3 yy => ?_⟩⟩
    · have hn : (pairs ds es).length = min xs.length xs'.length := by simp [pairs, g2.length, g2'.length]
      exact walk_zip hn
    · obtain ⟨T, a, b, rfl, hT, rfl, ha, hb⟩ := yy
      obtain ⟨d1, hd1, im1⟩ := (g2.mono e3).get ha
      obtain ⟨d2, hd2, im2⟩ := (g2'.mono e3).get hb
      refine ⟨Ex.new hT, .tuple [d1, d2], ?_, .tup upd_same (.cons (im1.mono (Ex.new hT)) (.cons (im2.mono (Ex.new hT)) .nil))⟩
      unfold pairs
      rw [List.getElem?_map, zip_get hd1 hd2] <;> rfl
/-- enumerate -/
def numbered : Nat → List PyData → List PyData
  | _, [] => []
  | n, d :: ds => .tuple [.int (n : Nat), d] :: numbered (n + 1) ds
theorem numbered_length : ∀ (ds : List PyData) (n : Nat), (numbered n ds).length = ds.length
  | [], _ => rfl
  | d :: ds, n => by simp [numbered, numbered_length ds]
theorem numbered_get : ∀ (ds : List PyData) (n i : Nat) (d : PyData), ds[i]? = some d → (numbered n ds)[i]? = some (.tuple [.int ((n + i : Nat) : Int), d])
  | [], _, _, _, h => by simp at h
  | d :: ds, n, 0, _, h => by simp at h; subst h; simp [numbered]
  | d :: ds, n, i + 1, e, h => by
    have ih := numbered_get ds (n + 1) i e (by simpa using h)
    simp only [numbered, List.getElem?_cons_succ, ih]
    have : n + 1 + i = n + (i + 1) := by omega
    rw [this]
theorem wk_enumL {ta : TA} (h : EvDs ta σ H [.list ds]) : Wk (iEnum K ta) σ H (numbered 0 ds) := fun H1 e R r =>
  h H1 e _ fun vs H2 e2 iv => by
    obtain ⟨v, rfl, i1⟩ := iv.one
    obtain ⟨p, xs, rfl, g1, g2⟩ := i1.l
    refine ⟨p, xs, rfl, SqL.of g1, r _ H2 (fun H => SqL K H p xs) (YPair (fun i => some (.int (i : Nat))) (fun i => xs[i]?)) e2 (by rw [numbered_length, ← g2.length]; exact walk_enum) (fun H3 e3 => SqL.of (e3 _ _ g1)) fun i H3 x H4 e3 yy => ?_⟩
    obtain ⟨T, a, b, rfl, hT, rfl, ha, hb⟩ := yy
    obtain ⟨d2, hd2, im2⟩ := (g2.mono e3).get hb
    have ea : a = .int (i : Nat) := (Option.some.inj ha).symm
    subst ea
    refine ⟨Ex.new hT, .tuple [.int (i : Nat), d2], ?_, .tup upd_same (.cons (.int _) (.cons (im2.mono (Ex.new hT)) .nil))⟩
    have := numbered_get ds 0 i d2 hd2
    rw [Nat.zero_add] at this
    exact this
/-! ### comprehensions -/
theorem tx_lst {D : Addr} {acc ys : List V} (h : H D = some (.lst acc)) : Tx H (upd H D (.lst ys)) := fun a xs ha => by
  rw [upd_ne (fun z => by subst z; rw [h] at ha; cases ha)]
  exact ha
theorem stills_of {α : Type} {f : α → PyData} : ∀ {l : List α}, (∀ d ∈ l, still (f d) = true) → stills (l.map f) = true
  | [], _ => rfl
  | d :: l, h => by
    show (still (f d) && stills (l.map f)) = true
    rw [h d (List.mem_cons_self ..), stills_of fun e he => h e (List.mem_cons_of_mem _ he)]
    rfl
theorem take_more {α : Type} : ∀ {l : List α} {i : Nat} {x : α}, l[i]? = some x → l.take (i + 1) = l.take i ++ [x]
  | [], i, x, h => by simp at h
  | a :: l, 0, x, h => by simp at h; subst h; rfl
  | a :: l, i + 1, x, h => by
    have ih := take_more (l := l) (i := i) (x := x) (by simpa using h)
    show a :: l.take (i + 1) = a :: l.take i ++ [x]
    rw [ih]; rfl
/-- a comprehension over data that comes from a list l of things: what each thing gives -/
theorem en_lcG {α : Type} {wi : TI} {g : TG} {tt : TT} {vs : List Nat} {l : List α} {emb : α → PyData} (f : α → PyData) (c : α → Bool) (hk : Wk wi σ H (l.map emb)) (hz : l.length ≤ 40000)
    (hb : ∀ d, d ∈ l → ∀ x H1, Ex H H1 → Im H1 x (emb d) → ∀ K' : L2.St → Hp → Prop, (∀ σ2, wipe σ2 vs = wipe σ vs → EvT tt σ2 H1 (c d) → (c d = true → EvD te σ2 H1 (f d)) → K' σ2 H1) → g x (wipe σ vs) H1 K')
    (hs : ∀ d ∈ l, c d = true → still (f d) = true) : EvN (tLc wi g tt te vs) σ H ((l.filter c).map f) := fun H0 e0 Q q =>
  hk H0 e0 _ fun J H2 G Y e2 W hG hY D hD => by
    have still_take : ∀ i, stills (((l.take i).filter c).map f) = true := fun i => by
      have key : ∀ m : List α, (∀ d ∈ m, c d = true → still (f d) = true) → stills ((m.filter c).map f) = true := by
        intro m
        induction m with
        | nil => intro _; rfl
        | cons d m ih =>
          intro hm
          have ih' := ih fun e he => hm e (List.mem_cons_of_mem _ he)
          cases hc : c d with
          | true =>
            rw [List.filter_cons_of_pos hc]
            show (still (f d) && stills ((m.filter c).map f)) = true
            rw [hm d (List.mem_cons_self ..) hc, ih']; rfl
          | false => rw [List.filter_cons_of_neg (by rw [hc]; decide)]; exact ih'
      exact key _ fun d hd hc => hs d (List.mem_of_mem_take hd) hc
    rw [List.length_map] at W
    refine lc_it W (fun i H' => Ex H2 H' ∧ ∃ acc, H' D = some (.lst acc) ∧ acc.length ≤ i ∧ Ims H' acc (((l.take i).filter c).map f))
      ⟨Ex.new hD, [], upd_same, Nat.le_refl _, .nil⟩ (fun i H' _ p => hG H' p.1) (fun i x H3 H4 hi p y => ?_) fun H' p => ?_
    · obtain ⟨p1, acc, p2, p4, p3⟩ := p
      obtain ⟨e34, d0, hd0, im⟩ := hY i H3 x H4 p1 y
      rw [List.getElem?_map] at hd0
      obtain ⟨d, hd, rfl⟩ : ∃ d, l[i]? = some d ∧ emb d = d0 := by
        cases e : l[i]? with
        | none => rw [e] at hd0; cases hd0
        | some d => rw [e] at hd0; exact ⟨d, rfl, Option.some.inj hd0⟩
      have hm : d ∈ l := List.mem_of_getElem? hd
      refine hb d hm x H4 ((e0.trans e2).trans (p1.trans e34)) im _ fun σ2 hσ hT hE => ⟨hσ, ?_⟩
      refine hT H4 (Ex.refl H4) _ fun H5 e45 => ?_
      have more := take_more hd
      cases hc : c d with
      | true =>
        show te σ2 H5 _
        refine hE hc H5 e45 _ fun v H6 e56 iv => ⟨acc, ((e34.trans e45).trans e56) D _ p2, sz_lt (by omega), Ex.mut (((p1.trans e34).trans e45).trans e56) hD, acc ++ [v], upd_same, by rw [List.length_append, List.length_singleton]; omega, ?_⟩
        have hacc := ((e34.trans e45).trans e56) D _ p2
        have t6 : Tx H6 (upd H6 D (.lst (acc ++ [v]))) := tx_lst hacc
        rw [more, List.filter_append, List.map_append]
        have ef : List.filter c [d] = [d] := by simp [hc]
        rw [ef]
        exact Ims.append ((p3.mono ((e34.trans e45).trans e56)).tx t6 (still_take i)) (.cons (iv.tx t6 (hs d hm hc)) .nil)
      | false =>
        show Ex H2 H5 ∧ _
        refine ⟨(p1.trans e34).trans e45, acc, (e34.trans e45) D _ p2, by omega, ?_⟩
        rw [more, List.filter_append]
        have ef : List.filter c [d] = [] := by simp [hc]
        rw [ef, List.append_nil]
        exact p3.mono (e34.trans e45)
    · obtain ⟨p1, acc, p2, _, p3⟩ := p
      rw [List.take_length] at p3
      exact q D acc H' (fresh_back e2 hD) (e2.trans p1) p2 p3
/-- the target a name -/
theorem en_lc {α : Type} {wi : TI} {tt : TT} {j : Nat} {vs : List Nat} {l : List α} {emb : α → PyData} (f : α → PyData) (c : α → Bool) (hk : Wk wi σ H (l.map emb)) (hz : l.length ≤ 40000)
    (hb : ∀ d, d ∈ l → ∀ x H1, Ex H H1 → Im H1 x (emb d) → EvT tt ((wipe σ vs).set j (some x)) H1 (c d) ∧ (c d = true → EvD te ((wipe σ vs).set j (some x)) H1 (f d)))
    (hs : ∀ d ∈ l, c d = true → still (f d) = true) (hw : ∀ x, wipe ((wipe σ vs).set j (some x)) vs = wipe σ vs := by intro x; rfl) : EvN (tLc wi (gName j) tt te vs) σ H ((l.filter c).map f) :=
  en_lcG f c hk hz (fun d hd x H1 e im K' k => k _ (hw x) (hb d hd x H1 e im).1 (hb d hd x H1 e im).2) hs
theorem et_yes : EvT tYes σ H true := fun H1 _ _ q => q H1 (Ex.refl H1)
/-- .. without a test -/
theorem en_lcM {α : Type} {wi : TI} {j : Nat} {vs : List Nat} {l : List α} {emb : α → PyData} (f : α → PyData) (hk : Wk wi σ H (l.map emb)) (hz : l.length ≤ 40000)
    (hb : ∀ d, d ∈ l → ∀ x H1, Ex H H1 → Im H1 x (emb d) → EvD te ((wipe σ vs).set j (some x)) H1 (f d))
    (hs : ∀ d ∈ l, still (f d) = true) (hw : ∀ x, wipe ((wipe σ vs).set j (some x)) vs = wipe σ vs := by intro x; rfl) : EvN (tLc wi (gName j) tYes te vs) σ H (l.map f) := by
  have h := en_lc (tt := tYes) (α := α) f (fun _ => true) hk hz (fun d hd x H1 e im => ⟨et_yes, fun _ => hb d hd x H1 e im⟩) (fun d hd _ => hs d hd) hw
  rw [List.filter_eq_self.mpr (fun _ _ => rfl)] at h
  exact h
/-- the target a pair of names -/
theorem en_lcP {α : Type} {wi : TI} {i j : Nat} {vs : List Nat} {l : List α} {e1 e2 : α → PyData} (f : α → PyData) (hk : Wk wi σ H (l.map fun a => .tuple [e1 a, e2 a])) (hz : l.length ≤ 40000)
    (hb : ∀ d, d ∈ l → ∀ x y H1, Ex H H1 → Im H1 x (e1 d) → Im H1 y (e2 d) → EvD te (((wipe σ vs).set i (some x)).set j (some y)) H1 (f d))
    (hs : ∀ d ∈ l, still (f d) = true) (hw : ∀ x y, wipe (((wipe σ vs).set i (some x)).set j (some y)) vs = wipe σ vs := by intro x y; rfl) : EvN (tLc wi (gTup K 2 (gCons (gName i) (gCons (gName j) gNil))) tYes te vs) σ H (l.map f) := by
  have h := en_lcG (te := te) (α := α) (g := gTup K 2 (gCons (gName i) (gCons (gName j) gNil))) (tt := tYes) (vs := vs) f (fun _ => true) hk hz (fun d hd x H1 e im K' k => by
    obtain ⟨p, xs, rfl, g1, g2⟩ := im.t
    obtain ⟨a, b, rfl, ia, ib⟩ := g2.two
    refine ⟨p, [a, b], rfl, SqT.of g1, rfl, a, [b], rfl, b, [], rfl, rfl, ?_⟩
    exact k _ (hw a b) et_yes fun _ => hb d hd a b H1 e ia ib) (fun d hd _ => hs d hd)
  rw [List.filter_eq_self.mpr (fun _ _ => rfl)] at h
  exact h
theorem pairs_map {α β : Type} (e1 : α → PyData) (e2 : β → PyData) : ∀ (l : List α) (m : List β), pairs (l.map e1) (m.map e2) = (l.zip m).map fun p => .tuple [e1 p.1, e2 p.2]
  | [], _ => rfl
  | _ :: _, [] => rfl
  | a :: l, b :: m => by
    have ih := pairs_map e1 e2 l m
    unfold pairs at ih ⊢
    simp only [List.map_cons, List.zip_cons_cons, ih]
/-- a text's signs -/
theorem en_lcS {j : Nat} {vs : List Nat} {z : Str} (f : Nat → PyData) (h : EvD tl σ H (.str z)) (hz : z.length ≤ 40000)
    (hb : ∀ c, c ∈ z.cps.toList → ∀ H1, Ex H H1 → EvD te ((wipe σ vs).set j (some (.str ⟨#[c]⟩))) H1 (f c))
    (hs : ∀ d ∈ z.cps.toList, still (f d) = true) (hw : ∀ x, wipe ((wipe σ vs).set j (some x)) vs = wipe σ vs := by intro x; rfl) : EvN (tLc (iStr tl) (gName j) tYes te vs) σ H (z.cps.toList.map f) :=
  en_lcM (l := z.cps.toList) (emb := fun c => .str ⟨#[c]⟩) f (wk_str h) (by simpa [Str.length] using hz) (fun c hc x H1 e im => by rw [im.s]; exact hb c hc H1 e) hs hw
/-! ### statements -/
variable {D : Ends} {tu tw tz : TS} {g : TG}
theorem s_asgD {i : Nat} (h : EvD te σ H d) (k : ∀ v H1, Ex H H1 → Im H1 v d → D.nx (σ.set i (some v)) H1) : tAsg te (gName i) D σ H := h H (Ex.refl H) _ fun v H1 e iv => k v H1 e iv
theorem q_asgD {i : Nat} (h : EvD te σ H d) (k : ∀ v H1, Ex H H1 → Im H1 v d → tz D (σ.set i (some v)) H1) : tSeq (tAsg te (gName i)) tz D σ H := s_asgD (D := { D with nx := tz D }) h k
theorem q_asgN {i : Nat} (h : EvN te σ H ds) (k : ∀ p xs H1, H p = none → Ex H H1 → H1 p = some (.lst xs) → Ims H1 xs ds → tz D (σ.set i (some (.ref p))) H1) : tSeq (tAsg te (gName i)) tz D σ H := h H (Ex.refl H) _ fun p xs H1 n e a b => k p xs H1 n e a b
theorem s_retD (h : EvD te σ H d) (k : ∀ v H1, Ex H H1 → Im H1 v d → D.rt v H1) : tRet te D σ H := h H (Ex.refl H) _ fun v H1 e iv => k v H1 e iv
/-- xs.append(e) of still data -/
theorem s_appD {l : Addr} {xs : List V} (hl : H l = some (.lst xs)) (ha : Ev ta σ H (.ref l)) (h : EvD te σ H d) (hs : still d = true) (hz : xs.length < 100000) (k : ∀ v H1, Ex H H1 → H1 l = some (.lst xs) → Im (upd H1 l (.lst (xs ++ [v]))) v d → D.nx σ (upd H1 l (.lst (xs ++ [v])))) :
    tDrop (tBM K "list" rAppend ta (tCons te tNil)) D σ H := ha H (Ex.refl H) _ fun H1 e1 =>
  ⟨Or.inl ⟨rfl, xs, sq_of (e1 l _ hl)⟩, h H1 e1 _ fun v H2 e2 iv => ⟨l, xs, v, rfl, rfl, e2 l _ (e1 l _ hl), sz_lt hz, k v H2 (e1.trans e2) (e2 l _ (e1 l _ hl)) (iv.tx (tx_lst (e2 l _ (e1 l _ hl))) hs)⟩⟩
/-! ### frames: what a part of a program may change -/
/-- all but the objects at M is as it was; the tuples stay -/
def ExM (M : List Addr) (H H' : Hp) : Prop := (∀ a o, a ∉ M → H a = some o → H' a = some o) ∧ Tx H H'
theorem ExM.refl (M : List Addr) (H : Hp) : ExM M H H := ⟨fun _ _ _ h => h, Tx.refl H⟩
theorem ExM.trans {M : List Addr} {H H1 H2 : Hp} (a : ExM M H H1) (b : ExM M H1 H2) : ExM M H H2 := ⟨fun x o n h => b.1 x o n (a.1 x o n h), a.2.trans b.2⟩
theorem ExM.of {M : List Addr} {H H' : Hp} (e : Ex H H') : ExM M H H' := ⟨fun a o _ h => e a o h, Tx.of e⟩
theorem ExM.upd {M : List Addr} {H : Hp} {l : Addr} {xs ys : List V} (hl : H l = some (.lst xs)) (hm : l ∈ M) : ExM M H (upd H l (.lst ys)) :=
  ⟨fun a o n h => by rw [upd_ne (fun z => n (by rw [z]; exact hm))]; exact h, tx_lst hl⟩
theorem ExM.weak {M M' : List Addr} {H H' : Hp} (e : ExM M H H') (h : ∀ a ∈ M, a ∈ M') : ExM M' H H' := ⟨fun a o n q => e.1 a o (fun z => n (h a z)) q, e.2⟩
theorem ExM.ex {H H' : Hp} (e : ExM [] H H') : Ex H H' := fun a o h => e.1 a o (by simp) h
/-- a fresh object may change: it is no part of what is kept -/
theorem ExM.ex_of {M : List Addr} {H0 H H' : Hp} (e0 : Ex H0 H) (hM : ∀ a ∈ M, H0 a = none) (e : ExM M H H') : Ex H0 H' := fun a o h =>
  e.1 a o (fun z => by rw [hM a z] at h; cases h) (e0 a o h)
theorem Im.m {M : List Addr} (e : ExM M H H') (s : still d = true) (h : Im H v d) : Im H' v d := h.tx e.2 s
/-- wi walks data src while all but M stays -/
def WkM (M : List Addr) (wi : TI) (σ : L2.St) (H : Hp) (src : List PyData) : Prop := ∀ H1, Ex H H1 → ∀ R : It → Hp → Prop,
  (∀ J H2 G Y, Ex H1 H2 → Walk J src.length G Y → (∀ H3, ExM M H2 H3 → G H3) → (∀ i H3 x H4, ExM M H2 H3 → Y i H3 x H4 → Ex H3 H4 ∧ ∃ d, src[i]? = some d ∧ Im H4 x d) → R J H2) → wi σ H1 R
theorem wm_tup {M : List Addr} (h : EvD tl σ H (.tuple ds)) (hs : stills ds = true) : WkM M (iTup K tl) σ H ds := fun H1 e R r =>
  h H1 e _ fun v H2 e2 iv => by
    obtain ⟨p, xs, rfl, g1, g2⟩ := iv.t
    refine ⟨p, rfl, ⟨xs, SqT.of g1⟩, r _ H2 (fun H => SqT K H p xs) (YAt xs) e2 (by rw [← g2.length]; exact walk_tup) (fun H3 e3 => SqT.of (e3.2 _ _ g1)) fun i H3 x H4 e3 yy => ?_⟩
    obtain ⟨rfl, hx⟩ := yy
    obtain ⟨d, hd, im⟩ := (g2.tx e3.2 hs).get hx
    exact ⟨Ex.refl _, d, hd, im⟩
/-- over a new list -/
theorem wm_new {M : List Addr} (h : EvN tl σ H ds) (hM : ∀ a ∈ M, H a ≠ none) (hs : stills ds = true) : WkM M (iList K tl) σ H ds := fun H1 e R r =>
  h H1 e _ fun p xs H2 n2 e2 g1 g2 => by
    have hp : p ∉ M := fun z => hM p z (fresh_back e n2)
    refine ⟨p, rfl, ⟨xs, SqL.of g1⟩, r _ H2 (fun H => SqL K H p xs) (YAt xs) e2 (by rw [← g2.length]; exact walk_list) (fun H3 e3 => SqL.of (e3.1 _ _ hp g1)) fun i H3 x H4 e3 yy => ?_⟩
    obtain ⟨rfl, hx⟩ := yy
    obtain ⟨d, hd, im⟩ := (g2.tx e3.2 hs).get hx
    exact ⟨Ex.refl _, d, hd, im⟩
/-- over a list at p -/
theorem wm_at {M : List Addr} {p : Addr} {xs : List V} (h : Ev tl σ H (.ref p)) (g1 : H p = some (.lst xs)) (g2 : Ims H xs ds) (hp : p ∉ M) (hs : stills ds = true) : WkM M (iList K tl) σ H ds := fun H1 e R r =>
  h H1 e _ fun H2 e2 => by
    have g1 := (e.trans e2) _ _ g1
    have g2 := g2.mono (e.trans e2)
    refine ⟨p, rfl, ⟨xs, SqL.of g1⟩, r _ H2 (fun H => SqL K H p xs) (YAt xs) e2 (by rw [← g2.length]; exact walk_list) (fun H3 e3 => SqL.of (e3.1 _ _ hp g1)) fun i H3 x H4 e3 yy => ?_⟩
    obtain ⟨rfl, hx⟩ := yy
    obtain ⟨d, hd, im⟩ := (g2.tx e3.2 hs).get hx
    exact ⟨Ex.refl _, d, hd, im⟩
theorem wm_enumAt {M : List Addr} {p : Addr} {xs : List V} (h : Ev tl σ H (.ref p)) (g1 : H p = some (.lst xs)) (g2 : Ims H xs ds) (hp : p ∉ M) (hs : stills ds = true) : WkM M (iEnum K (tCons tl tNil)) σ H (numbered 0 ds) := fun H1 e R r =>
  h H1 e _ fun H2 e2 => by
    have g1 := (e.trans e2) _ _ g1
    have g2 := g2.mono (e.trans e2)
    refine ⟨p, xs, rfl, SqL.of g1, r _ H2 (fun H => SqL K H p xs) (YPair (fun i => some (.int (i : Nat))) (fun i => xs[i]?)) e2 (by rw [numbered_length, ← g2.length]; exact walk_enum) (fun H3 e3 => SqL.of (e3.1 _ _ hp g1)) fun i H3 x H4 e3 yy => ?_⟩
    obtain ⟨T, a, b, rfl, hT, rfl, ha, hb⟩ := yy
    obtain ⟨d2, hd2, im2⟩ := (g2.tx e3.2 hs).get hb
    have ea : a = .int (i : Nat) := (Option.some.inj ha).symm
    subst ea
    refine ⟨Ex.new hT, .tuple [.int (i : Nat), d2], ?_, .tup upd_same (.cons (.int _) (.cons (im2.mono (Ex.new hT)) .nil))⟩
    have := numbered_get ds 0 i d2 hd2
    rw [Nat.zero_add] at this
    exact this
theorem wm_enumNew {M : List Addr} (h : EvN tl σ H ds) (hM : ∀ a ∈ M, H a ≠ none) (hs : stills ds = true) : WkM M (iEnum K (tCons tl tNil)) σ H (numbered 0 ds) := fun H1 e R r =>
  h H1 e _ fun p xs H2 n2 e2 g1 g2 => by
    have hp : p ∉ M := fun z => hM p z (fresh_back e n2)
    refine ⟨p, xs, rfl, SqL.of g1, r _ H2 (fun H => SqL K H p xs) (YPair (fun i => some (.int (i : Nat))) (fun i => xs[i]?)) e2 (by rw [numbered_length, ← g2.length]; exact walk_enum) (fun H3 e3 => SqL.of (e3.1 _ _ hp g1)) fun i H3 x H4 e3 yy => ?_⟩
    obtain ⟨T, a, b, rfl, hT, rfl, ha, hb⟩ := yy
    obtain ⟨d2, hd2, im2⟩ := (g2.tx e3.2 hs).get hb
    have ea : a = .int (i : Nat) := (Option.some.inj ha).symm
    subst ea
    refine ⟨Ex.new hT, .tuple [.int (i : Nat), d2], ?_, .tup upd_same (.cons (.int _) (.cons (im2.mono (Ex.new hT)) .nil))⟩
    have := numbered_get ds 0 i d2 hd2
    rw [Nat.zero_add] at this
    exact this
theorem wm_range {M : List Addr} {ta : TA} {n : Nat} (h : EvDs ta σ H [.int (n : Int)]) (hn : n ≤ 100000) : WkM M (iRng1 ta) σ H ((List.range n).map fun i => .int (i : Nat)) := fun H1 e R r =>
  h H1 e _ fun vs H2 e2 iv => by
    obtain ⟨v, rfl, i1⟩ := iv.one
    refine ⟨(n : Int), by rw [i1.i], by omega, by omega, r _ H2 (fun _ => True) (fun i H x H' => i < n ∧ H' = H ∧ x = .int (0 + (i : Int))) e2 (by
      have : ((List.range n).map fun i => PyData.int (i : Nat)).length = (n : Int).toNat := by simp
      rw [this]
      exact ⟨fun _ _ hi _ => hi, fun _ _ => Nat.le_refl _, fun i _ _ _ hi _ y => ⟨by simpa using hi, y.1, y.2⟩⟩) (fun _ _ => trivial) fun i H3 x H4 e3 yy => ?_⟩
    obtain ⟨hi', rfl, rfl⟩ := yy
    have e0 : (0 : Int) + (i : Int) = (i : Int) := Int.zero_add _
    refine ⟨Ex.refl _, .int (i : Nat), ?_, by show Im H4 (.int ((0 : Int) + (i : Int))) _; rw [e0]; exact .int _⟩
    have hi := hi'
    simp [hi]
/-- THE FOR: Pv by the turn, the slots, the heap; a turn may change what stands at M -/
theorem s_forM {wi : TI} {src : List PyData} (M : List Addr) (hk : WkM M wi σ H src) (Pv : Nat → L2.St → Hp → Prop) (h0 : ∀ H1, Ex H H1 → Pv 0 σ H1)
    (hm : ∀ i σ' H1 H2, Pv i σ' H1 → Ex H1 H2 → Pv i σ' H2)
    (hs : ∀ i d x σ' H3 H4, src[i]? = some d → Ex H3 H4 → Im H4 x d → Pv i σ' H4 → g x σ' H4 fun σ2 H5 => tu { D with nx := fun σ3 H6 => Pv (i + 1) σ3 H6 ∧ ExM M H3 H6, ct := fun σ3 H6 => Pv (i + 1) σ3 H6 ∧ ExM M H3 H6, bk := D.nx } σ2 H5)
    (hd : ∀ σ' H', Pv src.length σ' H' → D.nx σ' H') : tFor wi g tu D σ H := by
  refine hk H (Ex.refl H) _ fun J H2 G Y e2 W hG hY => ?_
  refine ⟨fun i m σ' H' => m = src.length - i ∧ i ≤ src.length ∧ Pv i σ' H' ∧ ExM M H2 H', ⟨src.length, by simp, Nat.zero_le _, h0 H2 e2, ExM.refl M H2⟩, ?_⟩
  rintro i m σ' H3 ⟨rfl, hi, p, e3⟩
  by_cases hlt : i < src.length
  · refine .inr ⟨W.goes i H3 hlt (hG H3 e3), fun σ3 H6 => Pv (i + 1) σ3 H6 ∧ ExM M H3 H6, fun σ3 H6 q => ⟨src.length - (i + 1), by omega, rfl, hlt, q.1, e3.trans q.2⟩, fun x H4 y => ?_⟩
    obtain ⟨e34, d, hd', im⟩ := hY i H3 x H4 e3 (W.yields i H3 x H4 hlt (hG H3 e3) y)
    exact hs i d x σ' H3 H4 hd' e34 im (hm i σ' H3 H4 p e34)
  · have e : i = src.length := by omega
    subst e
    exact .inl ⟨W.stops H3 (hG H3 e3), hd σ' H3 p⟩
theorem q_forM {wi : TI} {src : List PyData} (M : List Addr) (hk : WkM M wi σ H src) (Pv : Nat → L2.St → Hp → Prop) (h0 : ∀ H1, Ex H H1 → Pv 0 σ H1)
    (hm : ∀ i σ' H1 H2, Pv i σ' H1 → Ex H1 H2 → Pv i σ' H2)
    (hs : ∀ i d x σ' H3 H4, src[i]? = some d → Ex H3 H4 → Im H4 x d → Pv i σ' H4 → g x σ' H4 fun σ2 H5 => tu { D with nx := fun σ3 H6 => Pv (i + 1) σ3 H6 ∧ ExM M H3 H6, ct := fun σ3 H6 => Pv (i + 1) σ3 H6 ∧ ExM M H3 H6, bk := tz D } σ2 H5)
    (hd : ∀ σ' H', Pv src.length σ' H' → tz D σ' H') : tSeq (tFor wi g tu) tz D σ H := s_forM (D := { D with nx := tz D }) M hk Pv h0 hm hs hd
/-- a pair's names -/
theorem g_pair {i j : Nat} {x : V} {d1 d2 : PyData} {R : L2.St → Hp → Prop} (h : Im H x (.tuple [d1, d2])) (k : ∀ a b, Im H a d1 → Im H b d2 → R ((σ.set i (some a)).set j (some b)) H) : gTup K 2 (gCons (gName i) (gCons (gName j) gNil)) x σ H R := by
  obtain ⟨p, xs, rfl, g1, g2⟩ := h.t
  obtain ⟨a, b, rfl, ia, ib⟩ := g2.two
  exact ⟨p, [a, b], rfl, SqT.of g1, rfl, a, [b], rfl, b, [], rfl, rfl, k a b ia ib⟩
end
end Pd
set_option Elab.async false
set_option linter.all false
set_option maxRecDepth 100000
set_option maxHeartbeats 2000000
/-! Cal: defs of the text by name, their promises, and their calls. -/
namespace Pd
open PySem PySem.Spec PyProof.Rows L2 Evl
/-- a def that stands behind a name, its promise kept -/
structure Cal (P : Program) (w : World) (K : PySem.W.Frag) (mg : Str → Option Value) (base : Heap) (CX : CXT) (k : Nat) (x : Str) (ps : List Str) (sp : Sp) : Prop where
  ex : ∃ (f : Addr) (fd : FuncData), mg x = some (.ref f) ∧ PySem.W.keepIn K (.ref f) = true ∧ Binds K fd ps [] ∧ FnOk P w K mg base CX k f fd ps sp
/-- a def of the text that stands behind its name -/
structure Src (K : PySem.W.Frag) (mg : Str → Option Value) (x : Str) (st : Stmt) (ps : List Str) : Prop where
  ex : ∃ (f : Addr) (fd : FuncData), mg x = some (.ref f) ∧ Fun K x x st f fd ∧ Binds K fd ps []
section
variable {P : Program} {w : World} {K : PySem.W.Frag} {mg : Str → Option Value} {base : Heap}
theorem Src.cal {x : Str} {st : Stmt} {N ps : List Str} {k : Nat} {sp : Sp} (F : Src K mg x st ps) (S : FnScope N ps (defScope st)) (len : ∀ vs H Q E, sp vs H Q E → vs.length = ps.length)
    (hbody : ∀ (f : Addr) (cdv : Value) (A : Around) (outer : List Env) (s : Shared) (H : Hp) (vs : List V) (Q : VK) (E : XK), Room k (A.deeper (envOfC x (defScope st) s.heap.objs.size f cdv)) → sp vs H Q E →
      ∃ t, PSs (cxOf CX0 P w K mg base N x (defScope st) f cdv A outer s H E).nox (defBody st) t ∧ t { nx := fun _ H' => Q .non H', rt := Q } (start N vs) H) : Cal P w K mg base CX0 (k + 1) x ps sp := by
  obtain ⟨f, fd, hm, hF, hb⟩ := F.ex
  exact ⟨f, fd, hm, hF.kp, hb, hF.ok S len fun cdv A outer s H vs Q E => hbody f cdv A outer s H vs Q E⟩
theorem Src.calX {x : Str} {st : Stmt} {N ps : List Str} {k : Nat} {sp : Sp} (F : Src K mg x st ps) (S : FnScope N ps (defScope st)) (len : ∀ vs H Q E, sp vs H Q E → vs.length = ps.length)
    (hbody : ∀ (f : Addr) (cdv : Value) (A : Around) (outer : List Env) (s : Shared) (H : Hp) (vs : List V) (Q : VK) (E : XK), Room k (A.deeper (envOfC x (defScope st) s.heap.objs.size f cdv)) → sp vs H Q E →
      ∃ t, PSs (cxOf (L2.CX P w) P w K mg base N x (defScope st) f cdv A outer s H E) (defBody st) t ∧ t { nx := fun _ H' => Q .non H', rt := Q } (start N vs) H) : Cal P w K mg base (L2.CX P w) (k + 1) x ps sp := by
  obtain ⟨f, fd, hm, hF, hb⟩ := F.ex
  exact ⟨f, fd, hm, hF.kp, hb, hF.okX S len fun cdv A outer s H vs Q E => hbody f cdv A outer s H vs Q E⟩
end
section
variable {X : Cx} {CX : CXT} {k : Nat} {ps : List Str} {sp : Sp} {E : XK} {x : Str} {p pos : Pos} {e : Expr} {es : List Expr} {t : TA}
theorem pe_cal (C : Cal X.prog X.w X.K X.mg X.base CX k x ps sp) (hr : Room k X.A) (hg : Gl X x) (hx : Passes CX X E)
    (ha : PA X (e :: es) t) (hdb : (x == ("__debug__" : Str)) = false := by decide) (he : starEach (e :: es) X.env = (false, eval e X.env) :: starEach es X.env := by rfl) (hpl : (backTo pos (starEach es X.env)).any (·.1) = false := by rfl) :
    PE X (.Call (.Name x p) (e :: es) [] pos) (tCall sp [] E t) := by
  obtain ⟨f, fd, hm, hk, hb, F⟩ := C.ex
  exact pe_call F hr hg hm hk hb .nil hx ha hdb he hpl
theorem pe_calS {W : WX} (C : Cal X.prog X.w X.K X.mg X.base (L2.CX X.prog X.w) k x ps sp) (hr : Room k X.A) (hg : Gl X x) (tk : Takes X W)
    (ha : PA X (e :: es) t) (hdb : (x == ("__debug__" : Str)) = false := by decide) (he : starEach (e :: es) X.env = (false, eval e X.env) :: starEach es X.env := by rfl) (hpl : (backTo pos (starEach es X.env)).any (·.1) = false := by rfl) :
    PE X (.Call (.Name x p) (e :: es) [] pos) (tCallS sp (WE W) t) := by
  obtain ⟨f, fd, hm, hk, hb, F⟩ := C.ex
  exact pe_callS F hr hg hm hk hb (fun σ => passAt tk σ) ha hdb he hpl
end
/-! ### slots -/
section
variable {K : PySem.W.Frag} {σ : L2.St} {H H' : Hp} {ta tb te tx tl to : TE} {t u : TT} {d : PyData}
theorem s_whenD {b : Bool} {D : Ends} {tu tz : TS} (h : EvT t σ H b) (h1 : b = true → ∀ H1, Ex H H1 → tu { D with nx := tz D } σ H1) (h2 : b = false → ∀ H1, Ex H H1 → tz D σ H1) : tSeq (tIfS t tu tNext) tz D σ H := q_when h h1 h2
end
end Pd
namespace Pd
open PySem PySem.Spec PyProof.Rows L2 Evl
section
variable {X : Cx}
theorem pe_gl {x : Str} {v : V} {pos : Pos} (hg : Gl X x) (hm : ∃ u, X.mg x = some u ∧ RelV v u) (hd : (x == ("__debug__" : Str)) = false := by decide) : PE X (.Name x pos) (tC v) := by
  obtain ⟨u, h1, h2⟩ := hm
  exact pe_glob hg h1 h2 hd
end
end Pd
namespace Pd
open L2
@[simp] theorem kt_NoneType_str : kitB "NoneType" "str" = some false := by decide +kernel
@[simp] theorem kt_NoneType_tuple : kitB "NoneType" "tuple" = some false := by decide +kernel
@[simp] theorem kt_NoneType_int : kitB "NoneType" "int" = some false := by decide +kernel
@[simp] theorem kt_NoneType_bool : kitB "NoneType" "bool" = some false := by decide +kernel
@[simp] theorem kt_NoneType_list : kitB "NoneType" "list" = some false := by decide +kernel
@[simp] theorem kt_NoneType_dict : kitB "NoneType" "dict" = some false := by decide +kernel
@[simp] theorem kt_bool_str : kitB "bool" "str" = some false := by decide +kernel
@[simp] theorem kt_bool_tuple : kitB "bool" "tuple" = some false := by decide +kernel
@[simp] theorem kt_bool_int : kitB "bool" "int" = some true := by decide +kernel
@[simp] theorem kt_bool_bool : kitB "bool" "bool" = some true := by decide +kernel
@[simp] theorem kt_bool_list : kitB "bool" "list" = some false := by decide +kernel
@[simp] theorem kt_bool_dict : kitB "bool" "dict" = some false := by decide +kernel
@[simp] theorem kt_int_str : kitB "int" "str" = some false := by decide +kernel
@[simp] theorem kt_int_tuple : kitB "int" "tuple" = some false := by decide +kernel
@[simp] theorem kt_int_int : kitB "int" "int" = some true := by decide +kernel
@[simp] theorem kt_int_bool : kitB "int" "bool" = some false := by decide +kernel
@[simp] theorem kt_int_list : kitB "int" "list" = some false := by decide +kernel
@[simp] theorem kt_int_dict : kitB "int" "dict" = some false := by decide +kernel
@[simp] theorem kt_str_str : kitB "str" "str" = some true := by decide +kernel
@[simp] theorem kt_str_tuple : kitB "str" "tuple" = some false := by decide +kernel
@[simp] theorem kt_str_int : kitB "str" "int" = some false := by decide +kernel
@[simp] theorem kt_str_bool : kitB "str" "bool" = some false := by decide +kernel
@[simp] theorem kt_str_list : kitB "str" "list" = some false := by decide +kernel
@[simp] theorem kt_str_dict : kitB "str" "dict" = some false := by decide +kernel
@[simp] theorem kt_list_str : kitB "list" "str" = some false := by decide +kernel
@[simp] theorem kt_list_tuple : kitB "list" "tuple" = some false := by decide +kernel
@[simp] theorem kt_list_int : kitB "list" "int" = some false := by decide +kernel
@[simp] theorem kt_list_bool : kitB "list" "bool" = some false := by decide +kernel
@[simp] theorem kt_list_list : kitB "list" "list" = some true := by decide +kernel
@[simp] theorem kt_list_dict : kitB "list" "dict" = some false := by decide +kernel
@[simp] theorem kt_tuple_str : kitB "tuple" "str" = some false := by decide +kernel
@[simp] theorem kt_tuple_tuple : kitB "tuple" "tuple" = some true := by decide +kernel
@[simp] theorem kt_tuple_int : kitB "tuple" "int" = some false := by decide +kernel
@[simp] theorem kt_tuple_bool : kitB "tuple" "bool" = some false := by decide +kernel
@[simp] theorem kt_tuple_list : kitB "tuple" "list" = some false := by decide +kernel
@[simp] theorem kt_tuple_dict : kitB "tuple" "dict" = some false := by decide +kernel
@[simp] theorem kt_dict_str : kitB "dict" "str" = some false := by decide +kernel
@[simp] theorem kt_dict_tuple : kitB "dict" "tuple" = some false := by decide +kernel
@[simp] theorem kt_dict_int : kitB "dict" "int" = some false := by decide +kernel
@[simp] theorem kt_dict_bool : kitB "dict" "bool" = some false := by decide +kernel
@[simp] theorem kt_dict_list : kitB "dict" "list" = some false := by decide +kernel
@[simp] theorem kt_dict_dict : kitB "dict" "dict" = some true := by decide +kernel
end Pd
namespace Pd
open PySem PySem.Spec PyProof.Rows L2 Evl
/-! ### the rules with the written part K named -/
section
variable {X : Cx} {K : PySem.W.Frag} (hK : X.K = K)
include hK
theorem k_in_seq : OpR X (compareOp .In) (rIn K false) := by subst hK; exact op_in_seq
theorem k_notIn_seq : OpR X (compareOp .NotIn) (rIn K true) := by subst hK; exact op_notIn_seq
theorem k_eqD (hu : X.A.units + 64 < cLine) : OpR X (compareOp .Eq) (rEqD K) := by subst hK; exact op_eqD hu
theorem k_neD (hu : X.A.units + 64 < cLine) : OpR X (compareOp .NotEq) (rNeD K) := by subst hK; exact op_neD hu
theorem k_catA : OpR X (binaryOp .Add) (rCatA K) := by subst hK; exact op_catA
theorem k_isi : CallR X (.builtin "isinstance") (rIsi K) := by subst hK; exact call_isi
theorem k_len_seq : CallR X (.builtin "len") (rLenS K) := by subst hK; exact call_len_seq
theorem k_all (hc : X.calm = true) : CallR X (.builtin "all") (rAll K) := by subst hK; exact cr_all hc
theorem k_any (hc : X.calm = true) : CallR X (.builtin "any") (rAny K) := by subst hK; exact cr_any hc
theorem k_tuple_of : CallR X (.type "tuple") (rTupOf K) := by subst hK; exact call_tuple_of
theorem k_list_of : CallR X (.type "list") (rLstOf K) := by subst hK; exact call_list_of
theorem k_sortedS : CallR X (.builtin "sorted") (rSortedS K) := by subst hK; exact cr_sortedS
theorem k_ix_list : IxR X (rIxL K) := by subst hK; exact ix_list
theorem k_ix_tup : IxR X (rIxT K) := by subst hK; exact ix_tup
theorem k_sl_list : SlR X (rSlL K) := by subst hK; exact sl_list
theorem k_sl_tupA : SlR X (rSlA K) := by subst hK; exact sl_tupA
theorem k_pi_list {tg l : Expr} {tl : TE} (hl : PE X l tl) : PI X tg l (iList K tl) := by subst hK; exact pi_list hl
theorem k_pi_tup {tg l : Expr} {tl : TE} (hl : PE X l tl) : PI X tg l (iTup K tl) := by subst hK; exact pi_tup hl
theorem k_pi_zipA {e e2 : Expr} {ta : TA} {p pos tpos : Pos} {elts : List Expr} {kk : Nat} (hg : Gl X "zip") (hm : X.mg "zip" = none) (ha : PA X [e, e2] ta)
    (hs : starEach [e, e2] X.env = (false, eval e X.env) :: starEach [e2] X.env := by rfl) (hpl : (backTo pos (starEach [e2] X.env)).any (·.1) = false := by rfl) :
    PI X (.Tuple elts kk tpos) (.Call (.Name "zip" p) [e, e2] [] pos) (RZ.iZipA K ta) := by subst hK; exact RZ.pi_zipA hg hm ha hs hpl
theorem k_pi_enum {e : Expr} {ta : TA} {p pos tpos : Pos} {elts : List Expr} {kk : Nat} (hg : Gl X "enumerate") (hm : X.mg "enumerate" = none) (ha : PA X [e] ta) (hs : starEach [e] X.env = [(false, eval e X.env)] := by rfl) :
    PI X (.Tuple elts kk tpos) (.Call (.Name "enumerate" p) [e] [] pos) (iEnum K ta) := by subst hK; exact pi_enum hg hm ha hs
theorem k_pg_tup {es : List Expr} {k : Nat} {pos : Pos} {t : TGs} {n : Nat} (hc : X.calm = true) (h : PGs X es t) (hn : (assignEach es X.env).length = n := by rfl) (hst : (assignEach es X.env).findIdx? (·.1) = none := by rfl) : PG X (.Tuple es k pos) (gTup K n t) := by subst hK; exact pg_tup hc h hn hst
theorem k_join {o e : Expr} {to te : TE} {apos pos : Pos} (ho : PE X o to) (he : PE X e te) (hs : starEach [e] X.env = [(false, eval e X.env)] := by rfl) (hbase : attributeBase o "join" X.env (eval o X.env) = eval o X.env := by rfl) (hline : (apos.endLine == pos.line) = true := by rfl) :
    PE X (.Call (.Attribute o "join" apos) [e] [] pos) (tM1 (rJoin K) to te) := by subst hK; exact pe_join ho he hs hbase hline
theorem k_append {o e : Expr} {es : List Expr} {to : TE} {t : TA} {apos cpos : Pos} (ho : PE X o to) (ha : PA X (e :: es) t)
    (hbase : attributeBase o "append" X.env (eval o X.env) = eval o X.env := by rfl)
    (hfew : ((backTo cpos (starEach (e :: es) X.env)).all (fun x => !x.1) && (backToKw cpos (keywordEach [] X.env)).all (fun x => x.1.isSome)
      && decide ((e :: es).length + ([] : List Keyword).length + (if ([] : List Keyword).isEmpty then 0 else 1) < 30)) = true := by rfl)
    (hline : (apos.endLine == cpos.line) = true := by rfl)
    (hs : starEach (e :: es) X.env = (false, eval e X.env) :: starEach es X.env := by rfl) (hpl : (backTo cpos (starEach es X.env)).any (·.1) = false := by rfl) :
    PE X (.Call (.Attribute o "append" apos) (e :: es) [] cpos) (tBM K "list" rAppend to t) := by subst hK; exact pe_bm PySem.F.plainAttrs_list PySem.F.slot_list_append PySem.F.type_list_append mt_append ho ha hbase hfew hline hs hpl
theorem k_pop {o e : Expr} {es : List Expr} {to : TE} {t : TA} {apos cpos : Pos} (ho : PE X o to) (ha : PA X (e :: es) t)
    (hbase : attributeBase o "pop" X.env (eval o X.env) = eval o X.env := by rfl)
    (hfew : ((backTo cpos (starEach (e :: es) X.env)).all (fun x => !x.1) && (backToKw cpos (keywordEach [] X.env)).all (fun x => x.1.isSome)
      && decide ((e :: es).length + ([] : List Keyword).length + (if ([] : List Keyword).isEmpty then 0 else 1) < 30)) = true := by rfl)
    (hline : (apos.endLine == cpos.line) = true := by rfl)
    (hs : starEach (e :: es) X.env = (false, eval e X.env) :: starEach es X.env := by rfl) (hpl : (backTo cpos (starEach es X.env)).any (·.1) = false := by rfl) :
    PE X (.Call (.Attribute o "pop" apos) (e :: es) [] cpos) (tBM K "list" rPopAt to t) := by subst hK; exact pe_bm PySem.F.plainAttrs_list PySem.F.slot_list_pop PySem.F.type_list_pop mt_popAt ho ha hbase hfew hline hs hpl
end
end Pd
set_option Elab.async false
set_option linter.all false
set_option maxRecDepth 100000
set_option maxHeartbeats 2000000
/-! Xc: own exceptions. -/
namespace Pd
open PySem PySem.Spec PyProof.Rows L2 Evl
/-- an own class over ValueError (perhaps through others) without own __init__ -/
structure XCls (K : PySem.W.Frag) (mg : Str → Option Value) (x : Str) (C : Addr) : Prop where
  g : mg x = some (.ref C)
  x : PySem.W.excIn K C [.type "ValueError", .type "Exception", .type "BaseException", .type "object"] "ValueError.__new__" = true
  keep : PySem.W.keepIn K (.ref C) = true
  sub : PySem.W.subIn K (.ref C) (.type "BaseException") = some true
  ty : PySem.W.typeIn K (.ref C) = some (.type "type")
  is : PySem.W.isClsIn K C = true
  self : PySem.W.subIn K (.ref C) (.ref C) = some true
/-- an own class over ValueError with an __init__ that stores one field f -/
structure XFld (K : PySem.W.Frag) (mg : Str → Option Value) (x f : Str) (C : Addr) : Prop where
  g : mg x = some (.ref C)
  o : OexC K C
  xf : XfC K C
  nf : PySem.W.findIn K (.ref C) f = some none
  is : PySem.W.isClsIn K C = true
  self : PySem.W.subIn K (.ref C) (.ref C) = some true
theorem exm_self {K : PySem.W.Frag} {S : Addr} (h1 : PySem.W.subIn K (.ref S) (.type "BaseException") = some true) (h2 : PySem.W.isClsIn K S = true) (h3 : PySem.W.typeIn K (.ref S) = some (.type "type")) (h4 : PySem.W.subIn K (.ref S) (.ref S) = some true) :
    PySem.W.exmOne K (.ref S) (.ref S) = some true := by
  have e1 : (PySem.W.subIn K (.ref S) (.type "BaseException") == some true) = true := by rw [h1] <;> rfl
  have e2 : ((PySem.W.clsIn K S).isSome && PySem.W.typeIn K (.ref S) == some (.type "type")) = true := by
    have h2' : (PySem.W.clsIn K S).isSome = true := h2
    rw [h2', h3] <;> rfl
  show (if (PySem.W.subIn K (.ref S) (.type "BaseException") == some true) = true then (if ((PySem.W.clsIn K S).isSome && PySem.W.typeIn K (.ref S) == some (.type "type")) = true then PySem.W.subIn K (.ref S) (.ref S) else none) else none) = some true
  rw [if_pos e1, if_pos e2]
  exact h4
theorem XCls.exm {K : PySem.W.Frag} {mg : Str → Option Value} {x : Str} {C : Addr} (T : XCls K mg x C) : PySem.W.exmOne K (.ref C) (.ref C) = some true := exm_self T.sub T.is T.ty T.self
theorem XFld.exm {K : PySem.W.Frag} {mg : Str → Option Value} {x f : Str} {C : Addr} (T : XFld K mg x f C) : PySem.W.exmOne K (.ref C) (.ref C) = some true := exm_self T.o.exC T.is T.o.tyC T.self
section
variable {X : Cx} {x f : Str} {C : Addr} {p pos : Pos} {e : Expr} {ta : TA}
/-- C() -/
theorem pmk_x (T : XCls X.K X.mg x C) (hg : Gl X x) (hdb : (x == ("__debug__" : Str)) = false := by decide) : PMk X (.Call (.Name x p) [] [] pos) (fun _ H Q => Q (.ref C) none H) := by
  intro pins s σ H Q I h
  refine wpAny_Call_Name_kw (ld_glob I hg T.g ?_ hdb)
  refine PySem.W.callWith_K0 I.kIn T.keep ?_
  show wpAny _ _ (call (.ref C) []) _ _ _
  obtain ⟨bm, N, nm, qn, bs, hdct, sn, sub, ab, col, dd, k0, k1, k2, k3, k5, mN, hC, hN, hni, TT⟩ := exc_obj I.kIn T.x
  exact wpAny_call_exc_subT PySem.F.excBase_ValueError TT hC hN hni (fun h' e hm => mk_of I hm (raises_own T.sub T.ty) h (I.hok.gone hm.new)) (Nat.zero_le _)
/-- C(e, ..) without own __init__ -/
theorem pmk_xa {es : List Expr} (T : XCls X.K X.mg x C) (hg : Gl X x) (ha : PA X (e :: es) ta) (hdb : (x == ("__debug__" : Str)) = false := by decide)
    (he : starEach (e :: es) X.env = (false, eval e X.env) :: starEach es X.env := by rfl) (hpl : (backTo pos (starEach es X.env)).any (·.1) = false := by rfl) :
    PMk X (.Call (.Name x p) (e :: es) [] pos) (fun σ H Q => ta σ H fun vs H1 => vs.length ≤ sizeLine ∧ Q (.ref C) none H1) :=
  pmk_ownA PySem.F.excBase_ValueError T.x T.g T.keep (raises_own T.sub T.ty) hg ha hdb he hpl
/-- the promise of an __init__ that stores its one argument: self.f = v -/
def sp_fld (C : Addr) (f : Str) : Sp := fun vs H Q _ => ∃ (a : Addr) (v : V), vs = [.ref a, v] ∧ H a = some (exo a C none) ∧
  ∀ dx, H dx = none → dx ≠ a → Q .non (upd (upd H dx (exd dx [(f, v)])) a (exo a C (some dx)))
/-- C(e): the exception's own dict holds the field -/
theorem pmk_f {k : Nat} {fI : Addr} {fd : FuncData} (T : XFld X.K X.mg x f C) (iC : PySem.W.findIn X.K (.ref C) "__init__" = some (some (.ref fI))) (tI : PySem.W.typeIn X.K (.ref fI) = some (.type "function"))
    (F1 : FnOk X.prog X.w X.K X.mg X.base CX0 k fI fd ["self", f] (sp_fld C f)) (hb : Binds X.K fd ["self", f] []) (hr : Room (k + 1) X.A) (hg : Gl X x) (ha : PA X [e] ta) (hdb : (x == ("__debug__" : Str)) = false := by decide)
    (he : starEach [e] X.env = (false, eval e X.env) :: starEach [] X.env := by rfl) (hpl : (backTo pos (starEach [] X.env)).any (·.1) = false := by rfl) :
    PMk X (.Call (.Name x p) [e] [] pos) (tMkO C (sp_fld C f) [] ta) := pmk_oex T.o iC tI F1 hr hb .nil pass0 hg T.g ha hdb he hpl
theorem mk_f {σ : L2.St} {H : Hp} {d : PyData} {Q : XK} (h : EvDs ta σ H [d]) (k : ∀ v dd H2, Ex H H2 → Im H2 v d → H2 dd = some (.xd [(f, v)]) → Q (.ref C) (some dd) H2) : tMkO C (sp_fld C f) [] ta σ H Q := by
  refine h H (Ex.refl H) _ fun vs H1 e1 iv => ?_
  obtain ⟨v, rfl, i1⟩ := iv.one
  refine ⟨by show 1 ≤ 1000; omega, fun a ha => ⟨a, v, rfl, upd_same, fun dx hdx hne => ⟨rfl, dx, [(f, v)], upd_same, by rw [upd_ne hne, upd_same], ?_, ?_⟩⟩⟩
  · rw [upd_ne hne] at hdx; exact hdx
  · have hd1 : H1 dx = none := by rw [upd_ne hne] at hdx; exact hdx
    have e2 : Ex H1 (upd (del (upd (upd (upd H1 a (exo a C none)) dx (exd dx [(f, v)])) a (exo a C (some dx))) a) dx (.xd [(f, v)])) := fun b o hb => by
      have h1 : b ≠ a := fun z => by rw [z, ha] at hb; cases hb
      have h2 : b ≠ dx := fun z => by rw [z, hd1] at hb; cases hb
      rw [upd_ne h2, del_ne h1, upd_ne h1, upd_ne h2, upd_ne h1]
      exact hb
    exact k v dx _ (e1.trans e2) (i1.mono e2) upd_same
end
end Pd
set_option Elab.async false
set_option linter.all false
set_option maxRecDepth 100000
set_option maxHeartbeats 2000000
/-! Dr: dict(a tuple of pairs), tuple(d.items()), list.count of texts. -/
namespace Pd
open PySem PySem.Spec PyProof.Rows L2 Evl
section
variable {X : Cx} {es : List Expr} {t : TA} {pos : Pos}
/-- a tuple, a list of written items: its object is known to have no dict -/
def tTupF (t : TA) : TE := fun σ H Q => t σ H fun xs H1 => xs.length ≤ sizeLine ∧ ∀ p o, H1 p = none → o.dict = none → Q (.ref p) (upd H1 p (.frz o (.tup xs)))
theorem pe_tupF {x1} (h : PA X es t) : PE X (.Tuple es x1 pos) (tTupF t) := by
  refine ⟨fun pins s σ H Q I hq => ?_⟩
  refine wpAny_Tuple_spliced (thn (h.run pos pins s σ H _ I hq) fun us s1 ⟨xs, H1, I1, r, z, q⟩ => ⟨by rw [← r.length]; exact z, ?_⟩)
  have hf : H1 s1.heap.objs.size = none := I1.hok.fresh (Nat.le_refl _)
  refine ⟨.ref s1.heap.objs.size, upd H1 s1.heap.objs.size (.frz { cls := .type "tuple", data := .seq us.toArray } (.tup xs)), I1.laid (t' := s1.toks) (fun b u e => Heap.get?_push_of_some _ e) (Nat.le_refl _) ?_, rfl, q _ _ hf rfl⟩
  exact ⟨Heap.get?_push_size _ rfl, z, us, r, ⟨_, Heap.get?_push_size _ rfl, rfl, _, rfl⟩⟩
/-- t + u: a new one has no dict -/
def rCatF (K : PySem.W.Frag) : R2 := fun x y H Q => ∃ a b xs ys, x = .ref a ∧ y = .ref b ∧ SqT K H a xs ∧ SqT K H b ys ∧ xs.length + ys.length ≤ sizeLine ∧
  (xs = [] → Q (.ref b) H) ∧ (xs ≠ [] → ys = [] → Q (.ref a) H) ∧ (xs ≠ [] → ys ≠ [] → ∀ p o, H p = none → o.dict = none → Q (.ref p) (upd H p (.frz o (.tup (xs ++ ys)))))
theorem k_catF {K : PySem.W.Frag} (hK : X.K = K) : OpR X (binaryOp .Add) (rCatF K) := by
  subst hK
  intro pins s σ H x y v u Q I rx ry h
  obtain ⟨a, b, xs, ys, rfl, rfl, ha, hb, hz, q0, q1, q2⟩ := h
  cases rx
  cases ry
  obtain ⟨its, r1, p1, _⟩ := I.tuple ha
  obtain ⟨its2, r2, p2, _⟩ := I.tuple hb
  by_cases hx : xs = []
  · subst hx
    cases r1
    exact cat_tup0 p1 p2 ⟨.ref b, H, I, rfl, q0 rfl⟩
  · have hi : its ≠ [] := fun z => hx (r1.nil_iff.mp z)
    refine HT.cat_tup p1 p2 hi (fun z => ⟨.ref a, H, I, rfl, q1 hx (r2.nil_iff.mp z)⟩) (fun z => ?_) (by rw [← r1.length, ← r2.length]; exact hz)
    have hy : ys ≠ [] := fun e => z (r2.nil_iff.mpr e)
    refine ⟨.ref s.heap.objs.size, upd H s.heap.objs.size (.frz { cls := .type "tuple", data := .seq (its ++ its2).toArray } (.tup (xs ++ ys))), I.laid (t' := s.toks) (fun b u e => Heap.get?_push_of_some _ e) (Nat.le_refl _) ?_, rfl, q2 hx hy _ _ (I.hok.fresh (Nat.le_refl _)) rfl⟩
    exact ⟨Heap.get?_push_size _ rfl, by rw [List.length_append]; exact hz, its ++ its2, r1.append r2, ⟨_, Heap.get?_push_size _ rfl, rfl, _, rfl⟩⟩
theorem pairs_of2 {pins : List (Addr × Obj)} {σ : L2.St} {H : Hp} {s : Shared} (I : Inv X pins σ H s) : ∀ {ps : List Addr} {kvs : List (Key × V)}, Paired (fun p kv => SqT X.K H p [kV kv.1, kv.2]) ps kvs →
    ∃ (prs : List (Key × Value)) (pvs : List (Value × Value)), KV kvs prs ∧ prs.length = ps.length ∧ pvs.length = ps.length ∧ ∀ (j : Nat) (q : Value × Value), pvs[j]? = some q → ∃ (b : Addr) (k : Key), ps[j]? = some b ∧ IsTup s.heap b #[q.1, q.2] ∧ prs[j]? = some (k, q.2) ∧ keyIs k q.1 = true
  | _, _, .nil => ⟨[], [], .nil, rfl, rfl, fun j q e => by simp at e⟩
  | _, _, .cons (a := p) (b := kv) h t => by
    obtain ⟨prs, pvs, r, hl, hl2, hp⟩ := pairs_of2 I t
    obtain ⟨its, rv, ht, _⟩ := I.tuple h
    obtain ⟨u, y, ei, ru, ry⟩ := vals2 rv
    subst ei
    refine ⟨(kv.1, y) :: prs, (u, y) :: pvs, .cons ⟨rfl, ry⟩ r, by rw [List.length_cons, List.length_cons, hl], by rw [List.length_cons, List.length_cons, hl2], fun j q e => ?_⟩
    cases j with
    | zero =>
      have e' : (u, y) = q := Option.some.inj e
      subst e'
      exact ⟨p, kv.1, rfl, ht, rfl, kV_is (P := X.prog) (w := X.w) ru⟩
    | succ j =>
      obtain ⟨b, k, e1, e2, e3, e4⟩ := hp j q (by simpa using e)
      exact ⟨b, k, by simpa using e1, e2, by simpa using e3, e4⟩
/-- dict(t) of a tuple of pairs (key, value) -/
def rDictF (K : PySem.W.Frag) : List V → Hp → VK → Prop := fun xs H Q => ∃ (a : Addr) (o : Obj) (ps : List Addr) (kvs : List (Key × V)), xs = [.ref a] ∧ H a = some (.frz o (.tup (ps.map V.ref))) ∧ o.dict = none ∧ Paired (fun p kv => SqT K H p [kV kv.1, kv.2]) ps kvs ∧
    ∀ p, H p = none → Q (.ref p) (upd H p (.dK (mergeK [] kvs)))
theorem k_dictF {K : PySem.W.Frag} (hK : X.K = K) (hcalm : X.calm = true) : CallR X (.type "dict") (rDictF K) := by
  subst hK
  intro pins s σ H xs us Q I r q
  obtain ⟨a, o, ps, kvs, ex, hq, hod, hp, q⟩ := q
  subst ex
  obtain ⟨u, eu, rx⟩ := vals1 r
  subst eu
  cases rx
  obtain ⟨ho, hz, its, rv, ⟨o2, ho2, hc, n, hd⟩⟩ := I.hok a _ hq
  rw [ho] at ho2
  cases ho2
  have ei := refs_at rv
  subst ei
  rw [List.length_map] at hz
  obtain ⟨prs, pvs, rel, hl, hl2, hpr⟩ := pairs_of2 I hp
  refine PySem.call_dict_pairs (knd := mixKind X.prog X.w) (kvs := prs) (PairArg.tuple a (ps.map Value.ref).toArray (fun j => ps.getD j 0) pvs) (I.ok.hd hcalm) ⟨⟨o, n, ho, hc, hod, hd⟩, by simp [hl2], fun j k v e => ?_⟩ ⟨by rw [hl, hl2], fun i key v e => ?_⟩ (by rw [hl2]; exact hz) fun h' tk hd' k => ?_
  · obtain ⟨b, kk, e1, e2, e3, e4⟩ := hpr j (k, v) e
    have eb : ps.getD j 0 = b := by simp [List.getD, e1]
    show _ ∧ _
    dsimp only
    rw [eb]
    exact ⟨by simp [e1], .inl e2⟩
  · obtain ⟨b, kk, e1, e2, e3, e4⟩ := hpr i (key, v) e
    exact ⟨kk, e3, e4⟩
  · have hm : (s.heap.objs.size == sysModules) = false := beq_eq_false_iff_ne.mpr (Nat.ne_of_gt I.big)
    have hlen : (mergeK [] kvs).length ≤ sizeLine := by
      refine Nat.le_trans (length_mergeK kvs []) ?_
      rw [List.length_nil, Nat.zero_add, rel.length, hl]
      exact hz
    exact ⟨.ref s.heap.objs.size, upd H s.heap.objs.size (.dK (mergeK [] kvs)), I.laid (t' := tk) (fun b o e => k b o (by simp) e) (Nat.le_refl _) (show ObjOk X.prog X.w _ _ _ (.dK (mergeK [] kvs)) from ⟨hlen, hm, merged [] prs, KV.merge rel .nil, hd'⟩), rfl, q _ (I.hok.fresh (Nat.le_refl _))⟩
/-- xs.count(t) of a list of texts -/
def rCntS (K : PySem.W.Frag) : V → List V → Hp → VK → Prop := fun x xs H Q => ∃ (p : Addr) (ns : List Str) (k : Str), x = .ref p ∧ xs = [.str k] ∧ SqL K H p (ns.map V.str) ∧ Q (.int (ns.countP fun n => decide (n = k) : Nat)) H
theorem countP_eqU {x : V} : ∀ {xs : List V} {us : List Value}, Vals xs us → xs.all flatV = true → us.countP (eqU x) = xs.countP fun y => eqV y x
  | _, _, .nil, _ => rfl
  | y :: xs, u :: us, .cons r t, f => by
    rw [List.all_cons, Bool.and_eq_true] at f
    rw [List.countP_cons, List.countP_cons, eqU_of r f.1, countP_eqU t f.2]
theorem mt_lcountS : MtR X "list.count" (rCntS X.K) := by
  intro pins s σ H x xs v us Q I rx rxs h
  obtain ⟨p, ns, k, rfl, rfl, hs, q⟩ := h
  cases rx
  obtain ⟨u, rfl, ru⟩ := rxs.one
  obtain ⟨its, rv, ⟨⟨cls, dd, data, sl⟩, n, ho, hc, hdn, hd⟩, hlen⟩ := I.list hs
  simp only at hc hd
  subst hc hd
  refine call_meets PySem.F.slot_list_count ⟨_, ho, rfl⟩ PySem.F.entry_list_count (PySem.F.args_list_count_2 _ _)
    (SeqAt.list_countAt p its.toArray n dd sl u (eqU (.str k))) ⟨ho, fun y hy => mem_eqAt ru rfl rv (flat_strs ns) y (by simpa using hy), ?_⟩
  have ec : its.toArray.toList.countP (eqU (.str k)) = ns.countP fun n => decide (n = k) := by
    show its.countP (eqU (.str k)) = _
    rw [countP_eqU rv (flat_strs ns), List.countP_map]
    refine List.countP_congr fun a _ => ?_
    show (eqV (V.str a) (.str k) = true) ↔ _
    simp [eqV]
  refine ⟨.int (ns.countP (fun n => decide (n = k)) : Nat), H, I.tok _, ⟨s.toks, ?_⟩, q⟩
  show Value.int ((its.toArray.toList.countP (eqU (.str k)) : Nat) : Int) s.toks = Value.int ((ns.countP (fun n => decide (n = k)) : Nat) : Int) s.toks
  rw [ec]
end
end Pd
set_option Elab.async false
set_option linter.all false
set_option maxRecDepth 100000
set_option maxHeartbeats 2000000
/-! Dr2: tuple(d.items()). -/
namespace Pd
open PySem PySem.Spec PyProof.Rows L2 Evl LiI
open AutoSeq1 (wpAny_loadPart')
section
variable {prog : Program} {w : World}
theorem tuple_new_items (r d : Addr) (o : Obj) (knd : PySem.KeyKind prog w Key) (kvs : List (Key × Value)) (ep : Nat) (hc : o.cls = .type "dict_items") :
    MeetsIn prog w (Builtin.«tuple.__new__» ⟨[.type "tuple", .ref r], []⟩) (fun A R s => A.handled = none ∧ s.heap.get? r = some o ∧ s.heap.IsItemsView r d ∧ s.heap.DictAt knd d kvs ep ∧ kvs.length ≤ sizeLine ∧
      ∀ (h' : Heap) (tk : Nat) (as : List Addr), (∀ b o, s.heap.get? b = some o → h'.get? b = some o) → as.length = kvs.length → PySem.W.KdxG knd kvs s.heap.objs.size h' as →
        R (.ok (.ret (.ref h'.objs.size))) { s with heap := h'.push { cls := .type "tuple", data := .seq (as.map Value.ref).toArray }, toks := tk }) :=
  .of_wp fun A R s h => by
    obtain ⟨hp, g, dd, tk, os⟩ := s
    obtain ⟨hh, ht, hv, hm, hn, h⟩ := h
    have hsub := sub_tuple_self
    have hinit := init_tuple_lookup
    have hmh := madeHere_tuple
    have hT : Shared.TypeIs ⟨hp, g, dd, tk, os⟩ (.ref r) "dict_items" := ⟨o, ht, hc⟩
    have col : ∀ {Q : List Value → Shared → Prop} {E : Value → Shared → Prop}, (∀ (h' : Heap) (tk : Nat) (as : List Addr), (∀ b o, hp.get? b = some o → h'.get? b = some o) → as.length = kvs.length → PySem.W.KdxG knd kvs hp.objs.size h' as → Q (as.map Value.ref) ⟨h', g, dd, tk, os⟩) → wpAny (model prog w) A.in1 (collect (.ref r)) Q E ⟨hp, g, dd, tk, os⟩ := fun q => PySem.W.kdx_collect (s := ⟨hp, g, dd, tk, os⟩) hh hv hm hn q
    obtain ⟨o2, ho2, hc2, hd2⟩ := hv
    rw [ht] at ho2
    cases ho2
    wp_walk using wpAny_loadPart' ht, wpAny_typeOf hT, col
    intro h' tk' as hk hl hG
    have hz : as.length ≤ sizeLine := by rw [hl]; exact hn
    show wpAny _ _ (Builtin.Tuple.tupleExact (as.map Value.ref).toArray >>= fun v => ret v) _ _ _
    unfold Builtin.Tuple.tupleExact
    refine wpAny_bind (wpAny_newObj_type ?_ (by show (as.map Value.ref).toArray.size ≤ sizeLine; simpa using hz))
    refine wpAny_pure ⟨_, rfl, ?_⟩
    exact h h' tk' as hk hl hG
end
/-- tuple(d.items()): the address of the tuple is the last -/
def rItemsT : V → Hp → VK → Prop := fun x H Q => ∃ (d : Addr) (kvs : List (Key × V)), x = .ref d ∧ kvs ≠ [] ∧ H d = some (.dK kvs) ∧
  ∀ (H' : Hp) (p : Addr) (ts : List Addr), (∀ b o, H b = some o → H' b = some o) → H p = none → H' p = some (.tup (ts.map V.ref)) → Paired (fun (t : Addr) (q : Key × V) => H' t = some (.tup [kV q.1, q.2])) ts kvs → Q (.ref p) H'
def tTupItems (te : TE) : TE := fun σ H Q => te σ H fun x H1 => rItemsT x H1 Q
section
variable {X : Cx} {e : Expr} {te : TE} {p apos cpos pos : Pos}
theorem items_laidT {pins : List (Addr × Obj)} {σ : L2.St} {H : Hp} {s : Shared} {h' : Heap} {tk : Nat} {kvs : List (Key × V)} {vs : List (Key × Value)} {as : List Addr} (I : Inv X pins σ H s) (hne : kvs ≠ []) (hz : kvs.length ≤ sizeLine) (kv : KV kvs vs)
    (hk : ∀ b o, s.heap.get? b = some o → h'.get? b = some o) (hl : as.length = vs.length) (hG : PySem.W.KdxG (mixKind X.prog X.w) vs s.heap.objs.size h' as) :
    ∃ H' : Hp, (∀ b o, H b = some o → H' b = some o) ∧ H h'.objs.size = none ∧ H' h'.objs.size = some (.tup (as.map V.ref)) ∧ Paired (fun (t : Addr) (q : Key × V) => H' t = some (.tup [kV q.1, q.2])) as kvs ∧ Inv X pins σ H' { s with heap := h'.push { cls := .type "tuple", data := .seq (as.map Value.ref).toArray }, toks := tk } := by
  have lk : kvs.length = vs.length := Paired.length kv
  have hsz : s.heap.objs.size ≤ h'.objs.size := by
    cases as with
    | nil => exact absurd (List.length_eq_zero_iff.mp (lk.trans hl.symm)) hne
    | cons a as => exact Nat.le_of_lt (Nat.lt_trans (hG.above a (List.mem_cons_self ..)) (hG.there (List.mem_cons_self ..)))
  have hSn : h'.objs.size ∉ as := fun z => Nat.lt_irrefl _ (hG.there z)
  have nd : as.Nodup := List.Pairwise.imp (fun {a b} (h : a < b) => Nat.ne_of_lt h) hG.rise
  have new : ∀ t ∈ as, H t = none := fun t ht => I.hok.fresh (Nat.le_of_lt (hG.above t ht))
  have newS : H h'.objs.size = none := I.hok.fresh hsz
  have atP := putT_at as kvs (upd H h'.objs.size (.tup (as.map V.ref))) (by omega) nd
  have off : ∀ b, b ∉ as → b ≠ h'.objs.size → putT (upd H h'.objs.size (.tup (as.map V.ref))) as kvs b = H b := fun b h1 h2 => by rw [putT_off as kvs _ h1, upd_ne h2]
  have low : ∀ b o, s.heap.get? b = some o → b ∉ as ∧ b ≠ h'.objs.size := fun b o e => ⟨fun z => absurd (Heap.lt_size e) (Nat.not_lt.mpr (Nat.le_of_lt (hG.above b z))), Nat.ne_of_lt (Heap.lt_size (hk b o e))⟩
  have kp : ∀ b u, H b = some u → (putT (upd H h'.objs.size (.tup (as.map V.ref))) as kvs) b = some u := fun b u e => by
    rw [off b (fun z => by rw [new b z] at e; cases e) (fun z => by rw [z, newS] at e; cases e)]
    exact e
  have eS : putT (upd H h'.objs.size (.tup (as.map V.ref))) as kvs h'.objs.size = some (.tup (as.map V.ref)) := by rw [putT_off as kvs _ hSn, upd_same]
  have hk2 : ∀ b o, s.heap.get? b = some o → (h'.push { cls := .type "tuple", data := .seq (as.map Value.ref).toArray }).get? b = some o := fun b o q => Heap.get?_push_of_some _ (hk b o q)
  refine ⟨putT (upd H h'.objs.size (.tup (as.map V.ref))) as kvs, kp, newS, eS, atP, ?_⟩
  refine I.call' (ch := []) rfl ⟨fun b o q _ _ _ => hk2 b o q, fun b o q _ _ _ => ⟨o.slots, hk2 b o q⟩, fun b o q n _ => ?_, fun b o q _ => ⟨o, hk2 b o q⟩, fun b xs q => kp b _ q, fun b o u q => kp b _ q, fun b ps q => ⟨#[], by rw [kp b _ q]; simp⟩⟩ (fun b u q => ?_) I.bare fun b z => by simp at z
  · obtain ⟨z1, z2⟩ := low b o q
    rw [off b z1 z2]
    exact n
  · by_cases hb : b ∈ as
    · obtain ⟨j, pk, e1, e2, e3⟩ := paired_ix atP hb
      rw [e3] at q
      cases q
      obtain ⟨key, k, x, f1, f2, f3⟩ := hG.pairs j b e1
      obtain ⟨qv, g1, g2, g3⟩ := L2.paired_get kv e2
      rw [f1] at g1
      cases g1
      have rk : RelV (kV pk.1) key := by
        rw [g2]
        exact relV_key (show keyIs k key = true from f2)
      exact ⟨by show 2 ≤ sizeLine; decide, [key, x], .cons rk (.cons g3 .nil), ⟨_, Heap.get?_push_of_some _ f3, rfl, _, rfl⟩⟩
    · by_cases hb2 : b = h'.objs.size
      · rw [hb2] at q ⊢
        rw [eS] at q
        cases q
        exact ⟨by rw [List.length_map]; omega, as.map Value.ref, LiI.vals_refs as, ⟨_, Heap.get?_push_size _ rfl, rfl, _, rfl⟩⟩
      · rw [off b hb hb2] at q
        exact (I.hok b u q).stay (fun d v _ y => hk2 d v y) (fun d y => kp d _ y) fun d xs y => kp d _ y
/-- tuple(e.items()) -/
theorem pe_tupItems (hc : X.calm = true) (he : PE X e te) (hg : Gl X "tuple") (hm : X.mg "tuple" = none) (hv : bootBuiltins "tuple" = some (.type "tuple")) (hbase : attributeBase e "items" X.env (eval e X.env) = eval e X.env := by rfl) (hline : (apos.endLine == cpos.line) = true := by rfl)
    (hs : starEach [.Call (.Attribute e "items" apos) [] [] cpos] X.env = (false, eval (.Call (.Attribute e "items" apos) [] [] cpos) X.env) :: starEach [] X.env := by rfl) :
    PE X (.Call (.Name "tuple" p) [.Call (.Attribute e "items" apos) [] [] cpos] [] pos) (tTupItems te) := by
  refine ⟨fun pins s σ H Q I hq => ?_⟩
  refine wpAny_Call_Name_kw (ld_blt I hg hm hv ?_)
  refine PyProof.Rows.callWith_type1 ?_ hs rfl
  rw [hs]
  show wpAny _ _ (spliced ((false, eval (.Call (.Attribute e "items" apos) [] [] cpos) X.env) :: backTo pos (starEach [] X.env))) _ _ s
  refine Calls.spliced_cons ?_
  refine wpAny_Call_method (T := "dict") (id := "dict.items") hbase rfl hline F.plainAttrs_dict F.slot_dict_items F.type_dict_items (thn (he.run pins s σ H _ I hq) fun u s1 ⟨x, H1, I1, rx, d, kvs, ex, hne, hd, q⟩ => ?_)
  subst ex
  obtain rfl : u = Value.ref d := rx
  obtain ⟨hz, hs0, vs, kv, hdo⟩ := I1.hok d _ hd
  obtain ⟨ep, hat⟩ := hdo.dictAt
  have lk : kvs.length = vs.length := Paired.length kv
  have I2 : Inv X pins σ H1 { s1 with heap := s1.heap.push { cls := .type "dict_items", data := .fields #[.ref d] } } := I1.kept (t' := s1.toks) fun b ob q => Heap.get?_push_of_some _ q
  refine ⟨hdo.typeIs, hdo.mapOf.noDict, ?_⟩
  show wpAny _ _ (callWith cpos (.builtin "dict.items") [.ref d] [] []) _ X.xe s1
  refine method_meetsIn F.slot_dict_items F.entry_dict_items rfl (PySem.evalArgs_none ⟨rfl, hdo.typeIs, F.args_dict_items_1 _, _, meets_dict_items (mixKind X.prog X.w) d hs0, ⟨vs, hdo⟩, ?_⟩)
  refine Calls.spliced_nil ?_
  have hgv : (s1.heap.push { cls := .type "dict_items", data := .fields #[.ref d] }).get? s1.heap.objs.size = some { cls := .type "dict_items", data := .fields #[.ref d] } := Heap.get?_push_size _ rfl
  refine callType_newIn F.called_tuple (by decide) (F.typeCall_tuple_1 _) (F.newCall_tuple_1 _) (fun obj => F.args_object_init_2 obj _) F.entry_tuple_new
    (tuple_new_items s1.heap.objs.size d _ (mixKind X.prog X.w) vs ep rfl) ⟨I.ok.hd hc, hgv, ⟨_, hgv, rfl, rfl⟩, hat.push _, by omega, fun h' tk as hk hl hG => ?_⟩
  obtain ⟨H', k1, k2, k3, k4, J⟩ := items_laidT (tk := tk) I2 hne hz kv hk hl hG
  exact ⟨⟨_, Heap.get?_push_size _ rfl, rfl⟩, .ref _, H', J, rfl, q H' _ as k1 k2 k3 k4⟩
end
end Pd
set_option Elab.async false
set_option linter.all false
set_option maxRecDepth 100000
set_option maxHeartbeats 2000000
/-! Dd: dict(tuple), its items, count, and answers that are known only by what holds of them. -/
namespace Pd
open PySem PyProof.Rows L2 Evl
def EvF (te : TE) (σ : L2.St) (H : Hp) (ds : List PyData) : Prop := ∀ H1, Ex H H1 → ∀ Q : VK, (∀ p o xs H2, Ex H1 H2 → H2 p = some (.frz o (.tup xs)) → o.dict = none → Ims H2 xs ds → Q (.ref p) H2) → te σ H1 Q
/-- some data of which P holds -/
def EvP (te : TE) (σ : L2.St) (H : Hp) (P : PyData → Prop) : Prop := ∀ H1, Ex H H1 → ∀ Q : VK, (∀ v d H2, Ex H1 H2 → P d → Im H2 v d → Q v H2) → te σ H1 Q
def EvNP (te : TE) (σ : L2.St) (H : Hp) (P : List PyData → Prop) : Prop := ∀ H1, Ex H H1 → ∀ Q : VK, (∀ p xs ds H2, H1 p = none → Ex H1 H2 → P ds → H2 p = some (.lst xs) → Ims H2 xs ds → Q (.ref p) H2) → te σ H1 Q
/-- a test that may go either way, what holds then being P -/
def EvX (tt : TT) (σ : L2.St) (H : Hp) (P : Bool → Prop) : Prop := ∀ H1, Ex H H1 → ∀ Q : Bool → Hp → Prop, (∀ b H2, Ex H1 H2 → P b → Q b H2) → tt σ H1 Q
section
variable {K : PySem.W.Frag} {σ : L2.St} {H H' : Hp} {ta tb te tx tl to : TE} {t u : TT} {x y z v : V} {d d' e' : PyData} {ds es : List PyData}
theorem EvF.is {es : List PyData} (h : EvF te σ H ds) (e : ds = es) : EvF te σ H es := e ▸ h
theorem ef_tup {ta : TA} (h : EvDs ta σ H ds) (hl : ds.length ≤ 100000) : EvF (tTupF ta) σ H ds := fun H1 e _ q =>
  h H1 e _ fun vs H2 e2 i2 => ⟨sz_of (by rw [i2.length]; exact hl), fun p o hp ho => q p o vs _ (e2.trans (Ex.new hp)) upd_same ho (i2.mono (Ex.new hp))⟩
theorem ef_cat1 (ha : EvD ta σ H (.tuple ds)) (hb : EvF tb σ H es) (he : es ≠ []) (hz : ds.length + es.length ≤ 100000) : EvF (tOp (rCatF K) ta tb) σ H (ds ++ es) := fun H1 e Q q =>
  ha H1 e _ fun x H2 e2 ix => hb H2 (e.trans e2) _ fun p' o xs' H3 e3 g1' ho g2' => by
    obtain ⟨p, xs, rfl, g1, g2⟩ := (ix.mono e3).t
    have hne : xs' ≠ [] := fun z => by subst z; cases g2'; exact he rfl
    refine ⟨p, p', xs, xs', rfl, rfl, SqT.of g1, .inl (.inr ⟨o, g1'⟩), sz_of (by rw [g2.length, g2'.length]; exact hz), fun z => ?_, fun _ z => absurd z hne, fun _ _ r o' hr ho' => ?_⟩
    · subst z; cases g2; exact q p' o xs' H3 (e2.trans e3) g1' ho g2'
    · exact q r o' _ _ ((e2.trans e3).trans (Ex.new hr)) upd_same ho' ((g2.append g2').mono (Ex.new hr))
theorem ef_cat2 (ha : EvF ta σ H ds) (hb : EvD tb σ H (.tuple es)) (hd : ds ≠ []) (hz : ds.length + es.length ≤ 100000) : EvF (tOp (rCatF K) ta tb) σ H (ds ++ es) := fun H1 e Q q =>
  ha H1 e _ fun p o xs H2 e2 g1 ho g2 => hb H2 (e.trans e2) _ fun y H3 e3 iy => by
    obtain ⟨p', xs', rfl, g1', g2'⟩ := iy.t
    have g1 := e3 _ _ g1
    have g2 := g2.mono e3
    have hne : xs ≠ [] := fun z => by subst z; cases g2; exact hd rfl
    refine ⟨p, p', xs, xs', rfl, rfl, .inl (.inr ⟨o, g1⟩), SqT.of g1', sz_of (by rw [g2.length, g2'.length]; exact hz), fun z => absurd z hne, fun _ z => ?_, fun _ _ r o' hr ho' => ?_⟩
    · subst z; cases g2'; rw [List.append_nil] at q; exact q p o xs H3 (e2.trans e3) g1 ho g2
    · exact q r o' _ _ ((e2.trans e3).trans (Ex.new hr)) upd_same ho' ((g2.append g2').mono (Ex.new hr))
/-- the pairs of texts and data -/
theorem pairs_at {α : Type} {e2 : α → PyData} {n : α → Str} : ∀ {l : List α} {xs : List V}, Ims H xs (l.map fun a => .tuple [.str (n a), e2 a]) →
    ∃ (ps : List Addr) (kvs : List (Key × V)), xs = ps.map V.ref ∧ Paired (fun p kv => SqT K H p [kV kv.1, kv.2]) ps kvs ∧ kvs.length = l.length ∧ ∀ q ∈ kvs, ∃ a ∈ l, q.1 = .inr (n a) ∧ Im H q.2 (e2 a)
  | [], _, h => by cases h; exact ⟨[], [], rfl, .nil, rfl, fun q hq => by cases hq⟩
  | a :: l, _, h => by
    cases h with
    | cons h1 h2 =>
      obtain ⟨ps, kvs, rfl, hp, hl, hm⟩ := pairs_at h2
      obtain ⟨p, ys, rfl, g1, g2⟩ := h1.t
      obtain ⟨u, v, rfl, iu, iv⟩ := g2.two
      rw [iu.s] at g1
      refine ⟨p :: ps, (.inr (n a), v) :: kvs, rfl, .cons (SqT.of g1) hp, by rw [List.length_cons, List.length_cons, hl], fun q hq => ?_⟩
      rcases List.mem_cons.mp hq with rfl | hq
      · exact ⟨a, List.mem_cons_self .., rfl, iv⟩
      · obtain ⟨b, hb, r⟩ := hm q hq
        exact ⟨b, List.mem_cons_of_mem _ hb, r⟩
theorem mem_putK {kvs : List (Key × V)} {k : Key} {v : V} {q : Key × V} (h : q ∈ putK kvs k v) : q ∈ kvs ∨ q = (k, v) := by
  unfold putK at h
  split at h
  · obtain ⟨r, hr, e⟩ := List.mem_map.mp h
    by_cases c : r.1 = k
    · rw [if_pos c] at e; right; rw [← e, c]
    · rw [if_neg c] at e; left; rw [← e]; exact hr
  · rcases List.mem_append.mp h with h | h
    · exact .inl h
    · exact .inr (by simpa using h)
theorem mem_mergeK : ∀ {more kvs : List (Key × V)} {q : Key × V}, q ∈ mergeK kvs more → q ∈ kvs ∨ q ∈ more
  | [], _, _, h => .inl h
  | p :: more, kvs, q, h => by
    have h' : q ∈ mergeK (putK kvs p.1 p.2) more := h
    rcases mem_mergeK h' with h | h
    · rcases mem_putK h with h | h
      · exact .inl h
      · exact .inr (by rw [h]; exact List.mem_cons_self ..)
    · exact .inr (List.mem_cons_of_mem _ h)
theorem putK_ne {kvs : List (Key × V)} {k : Key} {v : V} : putK kvs k v ≠ [] := by
  unfold putK
  split
  · rename_i c
    intro z
    cases kvs with
    | nil => simp at c
    | cons a l => simp at z
  · simp
theorem mergeK_ne : ∀ {more kvs : List (Key × V)}, kvs ≠ [] → mergeK kvs more ≠ []
  | [], _, h => h
  | p :: more, kvs, h => by
    show mergeK (putK kvs p.1 p.2) more ≠ []
    exact mergeK_ne putK_ne
/-- tuple(dict(t).items()): rows that are rows of t -/
theorem ep_dictItems {α : Type} {e2 : α → PyData} {n : α → Str} {l : List α} (h : EvF te σ H (l.map fun a => .tuple [.str (n a), e2 a])) (hl : l ≠ []) :
    EvP (tTupItems (tCB (rDictF K) (tCons te tNil))) σ H fun d => ∃ l' : List α, l'.length ≤ l.length ∧ (∀ a ∈ l', ∃ b ∈ l, n a = n b ∧ a = b) ∧ d = .tuple (l'.map fun a => .tuple [.str (n a), e2 a]) := fun H1 e Q q => by
  refine h H1 e _ fun p o xs H2 e2' g1 ho g2 => ?_
  obtain ⟨ps, kvs, rfl, hp, hkl, hm⟩ := pairs_at (K := K) g2
  refine ⟨p, o, ps, kvs, rfl, g1, ho, hp, fun r hr => ?_⟩
  have hk : kvs ≠ [] := fun z => by
    subst z
    exact hl (List.length_eq_zero_iff.mp hkl.symm)
  refine ⟨r, mergeK [] kvs, rfl, ?_, upd_same, fun H' p' ts ex hn ht hpr => ?_⟩
  · cases kvs with
    | nil => exact absurd rfl hk
    | cons a kvs =>
      show mergeK (putK [] a.1 a.2) kvs ≠ []
      exact mergeK_ne putK_ne
  · have e3 : Ex H2 H' := fun a u ha => ex a u ((Ex.new hr) a u ha)
    have key : ∀ (ms : List (Key × V)) (ts : List Addr), (∀ q ∈ ms, q ∈ kvs) → Paired (fun (t : Addr) (q : Key × V) => H' t = some (.tup [kV q.1, q.2])) ts ms →
        ∃ l' : List α, l'.length = ms.length ∧ (∀ a ∈ l', a ∈ l) ∧ Ims H' (ts.map V.ref) (l'.map fun a => .tuple [.str (n a), e2 a]) := by
      intro ms
      induction ms with
      | nil => intro ts _ hq; cases hq; exact ⟨[], rfl, fun a ha => (by cases ha), .nil⟩
      | cons q ms ih =>
        intro ts hin hq
        cases hq with
        | cons hq1 hq2 =>
          obtain ⟨l', h1, h2, h3⟩ := ih _ (fun q hq => hin q (List.mem_cons_of_mem _ hq)) hq2
          obtain ⟨a, ha, e1, ia⟩ := hm q (hin q (List.mem_cons_self ..))
          rw [e1] at hq1
          refine ⟨a :: l', by rw [List.length_cons, List.length_cons, h1], fun b hb => ?_, .cons (.tup hq1 (.cons (.str _) (.cons (ia.mono e3) .nil))) h3⟩
          rcases List.mem_cons.mp hb with rfl | hb
          · exact ha
          · exact h2 b hb
    obtain ⟨l', h1, h2, h3⟩ := key _ _ (fun q hq => (mem_mergeK hq).resolve_left (by simp)) hpr
    refine q _ _ H' (e2'.trans e3) ⟨l', ?_, fun a ha => ⟨a, h2 a ha, rfl, rfl⟩, rfl⟩ (.tup ht h3)
    rw [h1, ← hkl]
    have := length_mergeK kvs []
    simpa using this
theorem ed_cnt {ss : List Str} {k : Str} (h : EvD to σ H (.list (ss.map .str))) (h2 : EvD te σ H (.str k)) : EvD (tBM K "list" (rCntS K) to (tCons te tNil)) σ H (.int (ss.countP fun n => decide (n = k) : Nat)) := fun H1 e Q q =>
  h H1 e _ fun v H2 e2 iv => by
    obtain ⟨p, xs, rfl, g1, g2⟩ := iv.l
    have ex := g2.strs
    subst ex
    refine ⟨Or.inl ⟨rfl, _, SqL.of g1⟩, h2 H2 (e.trans e2) _ fun w H3 e3 iw => ⟨p, ss, k, rfl, by rw [iw.s], SqL.of (e3 _ _ g1), q _ H3 (e2.trans e3) (.int _)⟩⟩
theorem enp_sorted {ss : List Str} (h : EvD te σ H (.list (ss.map .str))) (h64 : ss.length < 64) : EvNP (tCB (rSortedS K) (tCons te tNil)) σ H fun ds => ∃ ys : List Str, ds = ys.map .str ∧ ys.Perm ss ∧ sortedS ys = true := fun H1 e Q q =>
  h H1 e _ fun v H2 e2 iv => by
    obtain ⟨p, xs, rfl, g1, g2⟩ := iv.l
    have ex := g2.strs
    subst ex
    exact ⟨p, ss, rfl, SqL.of g1, h64, fun ys r hp hs hr => q r _ _ _ (fresh_back e2 hr) (e2.trans (Ex.new hr)) ⟨ys, rfl, hp, hs⟩ upd_same (Ims.ofStrs ys)⟩
variable {P P' : PyData → Prop}
theorem ep_callQ {R : List PyData → PyData → Prop} {E : XK} {ta : TA} {PA : List PyData → Prop} (h : ∀ H1, Ex H H1 → ∀ Q : List V → Hp → Prop, (∀ vs ds H2, Ex H1 H2 → PA ds → Ims H2 vs ds → Q vs H2) → ta σ H1 Q) (hd : ∀ ds, PA ds → ∃ d, R ds d ∧ P d) : EvP (tCall (SpQ R) [] E ta) σ H P := fun H1 e Q q =>
  h H1 e _ fun vs ds H2 e2 pa i2 => by
    obtain ⟨d, r, p⟩ := hd ds pa
    exact ⟨ds, d, by rw [List.append_nil]; exact i2, r, fun v H3 e3 i3 => q v d H3 (e2.trans e3) p i3⟩
theorem ea_one (h : EvP te σ H P) : ∀ H1, Ex H H1 → ∀ Q : List V → Hp → Prop, (∀ vs ds H2, Ex H1 H2 → (∃ d, ds = [d] ∧ P d) → Ims H2 vs ds → Q vs H2) → tCons te tNil σ H1 Q := fun H1 e Q q =>
  h H1 e _ fun v d H2 e2 p iv => q _ _ H2 e2 ⟨d, rfl, p⟩ (.cons iv .nil)
theorem EvD.p (h : EvD te σ H d) (hp : P d) : EvP te σ H P := fun H1 e Q q => h H1 e Q fun v H2 e2 iv => q v d H2 e2 hp iv
theorem EvP.w (h : EvP te σ H P) (hp : ∀ d, P d → P' d) : EvP te σ H P' := fun H1 e Q q => h H1 e Q fun v d H2 e2 p iv => q v d H2 e2 (hp d p) iv
theorem ex_B {PB : Bool → Prop} (h : EvP te σ H fun d => ∃ b, d = .bool b ∧ PB b) : EvX (tB te) σ H PB := fun H1 e Q q => h H1 e _ fun v d H2 e2 ⟨b, ed, p⟩ iv => by
  subst ed
  exact ⟨b, iv.b, q b H2 e2 p⟩
theorem ex_T {PB : Bool → Prop} (h : EvP te σ H fun d => ∃ b, d = .bool b ∧ PB b) : EvX (tTest te) σ H PB := fun H1 e Q q => h H1 e _ fun v d H2 e2 ⟨b, ed, p⟩ iv => by
  subst ed
  exact ⟨b, iv.b, q b H2 e2 p⟩
theorem EvT.ex {b : Bool} {PB : Bool → Prop} (h : EvT t σ H b) (hp : PB b) : EvX t σ H PB := fun H1 e Q q => h H1 e Q fun H2 e2 => q b H2 e2 hp
theorem ex_or {PA PB PC : Bool → Prop} (h1 : EvX t σ H PA) (h2 : PA false → EvX u σ H PB) (ht : PA true → PC true) (hf : ∀ b, PA false → PB b → PC b) : EvX (tOr t u) σ H PC := fun H1 e Q q => h1 H1 e _ fun b H2 e2 p => by
  cases b with
  | true =>
    show Q true H2
    exact q true H2 e2 (ht p)
  | false =>
    show u σ H2 Q
    exact h2 p H2 (e.trans e2) Q fun b H3 e3 p3 => q b H3 (e2.trans e3) (hf b p p3)
theorem ex_and {PA PB PC : Bool → Prop} (h1 : EvX t σ H PA) (h2 : PA true → EvX u σ H PB) (hf : PA false → PC false) (ht : ∀ b, PA true → PB b → PC b) : EvX (tAnd t u) σ H PC := fun H1 e Q q => h1 H1 e _ fun b H2 e2 p => by
  cases b with
  | false =>
    show Q false H2
    exact q false H2 e2 (hf p)
  | true =>
    show u σ H2 Q
    exact h2 p H2 (e.trans e2) Q fun b H3 e3 p3 => q b H3 (e2.trans e3) (ht b p p3)
theorem ex_not {PA : Bool → Prop} (h1 : EvX t σ H PA) : EvX (tNot t) σ H (fun b => PA (!b)) := fun H1 e _ q => h1 H1 e _ fun b H2 e2 p => q (!b) H2 e2 (by show PA (!(!b)); rw [Bool.not_not]; exact p)
theorem mk_fP {ta : TA} {C : Addr} {f : Str} {Q : XK} (h : ∀ H1, Ex H H1 → ∀ Q : List V → Hp → Prop, (∀ vs ds H2, Ex H1 H2 → (∃ d, ds = [d] ∧ P d) → Ims H2 vs ds → Q vs H2) → ta σ H1 Q) (k : ∀ v d dd H2, Ex H H2 → P d → Im H2 v d → H2 dd = some (.xd [(f, v)]) → Q (.ref C) (some dd) H2) : tMkO C (sp_fld C f) [] ta σ H Q := by
  refine h H (Ex.refl H) _ fun vs ds H1 e1 ⟨d, ed, p⟩ iv => ?_
  subst ed
  obtain ⟨v, rfl, i1⟩ := iv.one
  exact mk_f (σ := []) (d := d) (ta := tCons (tC v) tNil) (H := H1) (ea1 (ed_c i1) ea0) (fun v' dd H2 e2 iv' hdd => k v' d dd H2 (e1.trans e2) p iv' hdd)
variable {D : Ends} {tu tz : TS}
theorem q_whenX {PB : Bool → Prop} (h : EvX t σ H PB) (h1 : PB true → ∀ H1, Ex H H1 → tu { D with nx := tz D } σ H1) (h2 : PB false → ∀ H1, Ex H H1 → tz D σ H1) : tSeq (tIfS t tu tNext) tz D σ H := h H (Ex.refl H) _ fun b H1 e p => by
  cases b with
  | true =>
    show tu _ σ H1
    exact h1 p H1 e
  | false =>
    show tz D σ H1
    exact h2 p H1 e
theorem s_whenX {PB : Bool → Prop} (h : EvX t σ H PB) (h1 : PB true → ∀ H1, Ex H H1 → tu D σ H1) (h2 : PB false → ∀ H1, Ex H H1 → D.nx σ H1) : tIfS t tu tNext D σ H := h H (Ex.refl H) _ fun b H1 e p => by
  cases b with
  | true =>
    show tu _ σ H1
    exact h1 p H1 e
  | false =>
    show D.nx σ H1
    exact h2 p H1 e
theorem q_asgP {i : Nat} (h : EvP te σ H P) (k : ∀ v d H1, Ex H H1 → P d → Im H1 v d → tz D (σ.set i (some v)) H1) : tSeq (tAsg te (gName i)) tz D σ H := h H (Ex.refl H) _ fun v d H1 e p iv => k v d H1 e p iv
theorem q_asgNP {i : Nat} {PL : List PyData → Prop} (h : EvNP te σ H PL) (k : ∀ p xs ds H1, H p = none → Ex H H1 → PL ds → H1 p = some (.lst xs) → Ims H1 xs ds → tz D (σ.set i (some (.ref p))) H1) : tSeq (tAsg te (gName i)) tz D σ H := h H (Ex.refl H) _ fun p xs ds H1 n e pl a b => k p xs ds H1 n e pl a b
theorem EvNP.toP {PL : List PyData → Prop} (h : EvNP te σ H PL) : EvP te σ H fun d => ∃ ds, d = .list ds ∧ PL ds := fun H1 e Q q => h H1 e Q fun p xs ds H2 n e2 pl a b => q _ _ H2 e2 ⟨ds, rfl, pl⟩ (.lst a b)
end
end Pd
set_option Elab.async false
set_option linter.all false
set_option maxRecDepth 100000
set_option maxHeartbeats 2000000
/-! Dt: ints, lists that change, the tape. -/
namespace Pd
open PySem PyProof.Rows L2 Evl
section
variable {K : PySem.W.Frag} {σ : L2.St} {H H' : Hp} {ta tb te tx tl to : TE} {t u : TT} {x y z v : V} {d d' e' : PyData} {ds es : List PyData}
abbrev rInt1 : List V → Hp → VK → Prop := fun xs H Q => (∃ i, xs = [.int i] ∧ Q (.int i) H) ∨ ∃ k, xs = [.bl k] ∧ Q (.int (if k then 1 else 0)) H
theorem ed_int1 {i : Int} (h : EvD te σ H (.int i)) : EvD (tCB rInt1 (tCons te tNil)) σ H (.int i) :=
  ed_cb (ea1 h ea0) fun vs H1 e iv Q q => by
    obtain ⟨v, rfl, i1⟩ := iv.one
    rw [i1.i]
    exact .inl ⟨i, rfl, q _ H1 (Ex.refl H1) (.int _)⟩
abbrev rAbs : List V → Hp → VK → Prop := fun xs H Q => ∃ i, xs = [.int i] ∧ Q (.int (if i < 0 then -i else i)) H
theorem ed_abs {i : Int} (h : EvD te σ H (.int i)) : EvD (tCB rAbs (tCons te tNil)) σ H (.int (if i < 0 then -i else i)) :=
  ed_cb (ea1 h ea0) fun vs H1 e iv Q q => by
    obtain ⟨v, rfl, i1⟩ := iv.one
    rw [i1.i]
    exact ⟨i, rfl, q _ H1 (Ex.refl H1) (.int _)⟩
theorem Ims.ofInts : ∀ ss : List Int, Ims H (ss.map V.int) (ss.map PyData.int)
  | [] => .nil
  | s :: ss => .cons (.int s) (Ims.ofInts ss)
theorem Ims.ints : ∀ {ss : List Int} {vs : List V}, Ims H vs (ss.map PyData.int) → vs = ss.map V.int
  | [], _, h => by cases h; rfl
  | s :: ss, _, h => by cases h with | cons h1 h2 => rw [h1.i, Ims.ints h2]; rfl
/-- over a list that is read: of the script, too -/
theorem wk_sq {a : Addr} {xs : List V} (h : Ev tl σ H (.ref a)) (hx : SqL K H a xs) (g2 : Ims H xs ds) : Wk (iList K tl) σ H ds := fun H1 e R r =>
  h H1 e _ fun H2 e2 => by
    have hx := ex_l (e.trans e2) hx
    have g2 := g2.mono (e.trans e2)
    refine ⟨a, rfl, ⟨xs, hx⟩, r _ H2 (fun H => SqL K H a xs) (YAt xs) e2 (by rw [← g2.length]; exact walk_list) (fun H3 e3 => ex_l e3 hx) fun i H3 x H4 e3 yy => ?_⟩
    obtain ⟨rfl, hx⟩ := yy
    obtain ⟨d, hd, im⟩ := (g2.mono e3).get hx
    exact ⟨Ex.refl _, d, hd, im⟩
theorem Wk.m {wi : TI} {src : List PyData} (h : Wk wi σ H src) : WkM [] wi σ H src := fun H1 e R r => h H1 e R fun J H2 G Y e2 W hG hY => r J H2 G Y e2 W (fun H3 e3 => hG H3 e3.ex) fun i H3 x H4 e3 yy => hY i H3 x H4 e3.ex yy
theorem WkM.wk {wi : TI} {src : List PyData} (h : WkM [] wi σ H src) : Wk wi σ H src := fun H1 e R r => h H1 e R fun J H2 G Y e2 W hG hY => r J H2 G Y e2 W (fun H3 e3 => hG H3 (ExM.of e3)) fun i H3 x H4 e3 yy => hY i H3 x H4 (ExM.of e3) yy
/-! ### frames -/
theorem ExM.mut {M : List Addr} {p : Addr} {o : HO} (e : ExM M H H') (h : H p = none) : ExM M H (L2.upd H' p o) :=
  ⟨fun a u n ha => by rw [upd_ne (fun z => by rw [z, h] at ha; cases ha)]; exact e.1 a u n ha, fun a xs ha => by rw [upd_ne (fun z => by rw [z, h] at ha; cases ha)]; exact e.2 a xs ha⟩
theorem ExM.fresh {M : List Addr} {p : Addr} (e : ExM M H H') (hM : p ∉ M) (h : H' p = none) : H p = none := by
  cases c : H p with
  | none => rfl
  | some o => rw [e.1 p o hM c] at h; cases h
/-- the tape: a list at t of the list of numbers at c, and the seed -/
structure Tape (t c : Addr) (H : Hp) : Prop where
  ne : t ≠ c
  at_t : ∃ s : Int, H t = some (.lst [.ref c, .int s]) ∧ 0 ≤ s ∧ s ≤ 2147483647
  at_c : ∃ ns : List Int, H c = some (.lst (ns.map V.int)) ∧ ns.length ≤ 63 ∧ ∀ n ∈ ns, 0 ≤ n
theorem Tape.ex {t c : Addr} (T : Tape t c H) (e : Ex H H') : Tape t c H' := by
  obtain ⟨ne, ⟨s, h1, h2⟩, ⟨ns, h3, h4⟩⟩ := T
  exact ⟨ne, ⟨s, e _ _ h1, h2⟩, ⟨ns, e _ _ h3, h4⟩⟩
theorem Tape.upd {t c p : Addr} {o : HO} (T : Tape t c H) (h1 : p ≠ t) (h2 : p ≠ c) : Tape t c (L2.upd H p o) := by
  obtain ⟨ne, ⟨s, g1, g2⟩, ⟨ns, g3, g4⟩⟩ := T
  exact ⟨ne, ⟨s, by rw [upd_ne (fun z => h1 z.symm)]; exact g1, g2⟩, ⟨ns, by rw [upd_ne (fun z => h2 z.symm)]; exact g3, g4⟩⟩
theorem Tape.some_t {t c : Addr} (T : Tape t c H) : H t ≠ none := by
  obtain ⟨_, ⟨s, h1, _⟩, _⟩ := T
  rw [h1]; simp
theorem Tape.some_c {t c : Addr} (T : Tape t c H) : H c ≠ none := by
  obtain ⟨_, _, ⟨s, h1, _⟩⟩ := T
  rw [h1]; simp
theorem Tape.notin {t c p : Addr} (T : Tape t c H) (h : H p = none) : p ∉ [t, c] := fun z => by
  rcases List.mem_cons.mp z with rfl | z
  · exact T.some_t h
  · rcases List.mem_cons.mp z with rfl | z
    · exact T.some_c h
    · cases z
/-- later: what is not the tape stays, the tape stays one -/
def Go (t c : Addr) (H H' : Hp) : Prop := ExM [t, c] H H' ∧ Tape t c H'
theorem Go.trans {t c : Addr} {H1 : Hp} (a : Go t c H H1) (b : Go t c H1 H') : Go t c H H' := ⟨a.1.trans b.1, b.2⟩
theorem Go.of {t c : Addr} (T : Tape t c H) (e : Ex H H') : Go t c H H' := ⟨ExM.of e, T.ex e⟩
theorem Go.ex {t c : Addr} {H1 : Hp} (a : Go t c H H1) (e : Ex H1 H') : Go t c H H' := ⟨a.1.trans (ExM.of e), a.2.ex e⟩
theorem Go.refl {t c : Addr} (T : Tape t c H) : Go t c H H := ⟨ExM.refl _ _, T⟩
theorem Go.at {t c p : Addr} {o : HO} (g : Go t c H H') (hp : p ∉ [t, c]) (h : H p = some o) : H' p = some o := g.1.1 p o hp h
theorem Go.im {t c : Addr} (g : Go t c H H') (s : still d = true) (h : Im H v d) : Im H' v d := h.tx g.1.2 s
/-- one whole number below m is drawn -/
def sp_draw : Sp := fun vs H Q _ => ∃ (t c : Addr) (m : Nat), vs = [.ref t, .int (m : Nat)] ∧ Tape t c H ∧ 1 ≤ m ∧ m ≤ 1000 ∧ ∀ r : Nat, r < m → ∀ H', Go t c H H' → Q (.int (r : Nat)) H'
def sp_tape (K : PySem.W.Frag) : Sp := fun vs H Q _ => ∃ (a : Addr) (ns : List Int), vs = [.ref a] ∧ SqL K H a (ns.map V.int) ∧ ns.length ≤ 63 ∧ ∀ t c H', Ex H H' → Tape t c H' → Q (.ref t) H'
def sp_pick : Sp := fun vs H Q _ => ∃ (t c p : Addr) (xs : List V), vs = [.ref t, .ref p] ∧ Tape t c H ∧ p ∉ [t, c] ∧ H p = some (.lst xs) ∧ xs ≠ [] ∧ xs.length ≤ 1000 ∧ ∀ (i : Nat) (x : V), xs[i]? = some x → ∀ H', Go t c H H' → Q x H'
theorem drawn {it : Nat} {t c : Addr} {m : Nat} {Q : VK} {E : XK} (ht : σ[it]? = some (some (.ref t))) (T : Tape t c H) (hm : EvD tb σ H (.int (m : Nat))) (h1 : 1 ≤ m) (h2 : m ≤ 1000) (k : ∀ r : Nat, r < m → ∀ H', Go t c H H' → Q (.int (r : Nat)) H') :
    tCall sp_draw [] E (tCons (tVar it) (tCons tb tNil)) σ H Q := (ea_cons (ev_var ht) (ea_cons hm.evI ea_nil)) H (Ex.refl H) _ fun H2 e2 =>
  ⟨t, c, m, rfl, T.ex e2, h1, h2, fun r hr H' g => k r hr H' ((Go.of T e2).trans g)⟩
theorem picked {it : Nat} {t c p : Addr} {xs : List V} {Q : VK} {E : XK} (ht : σ[it]? = some (some (.ref t))) (T : Tape t c H) (hp : Ev tb σ H (.ref p)) (hn : p ∉ [t, c]) (hx : H p = some (.lst xs)) (h1 : xs ≠ []) (h2 : xs.length ≤ 1000) (k : ∀ (i : Nat) (x : V), xs[i]? = some x → ∀ H', Go t c H H' → Q x H') :
    tCall sp_pick [] E (tCons (tVar it) (tCons tb tNil)) σ H Q := (ea_cons (ev_var ht) (ea_cons hp ea_nil)) H (Ex.refl H) _ fun H2 e2 =>
  ⟨t, c, p, xs, rfl, T.ex e2, hn, e2 _ _ hx, h1, h2, fun i x hx H' g => k i x hx H' ((Go.of T e2).trans g)⟩
variable {D : Ends}
theorem s_pop0 {l : Addr} {xs : List V} (hl : H l = some (.lst (x :: xs))) (ha : Ev ta σ H (.ref l)) (h : Ev te σ H (.int 0)) (k : ∀ H1, Ex H H1 → D.nx σ (L2.upd H1 l (.lst xs))) : tDrop (tBM K "list" rPopAt ta (tCons te tNil)) D σ H :=
  ha H (Ex.refl H) _ fun H1 e1 => ⟨Or.inl ⟨rfl, _, sq_of (e1 l _ hl)⟩, h H1 e1 _ fun H2 e2 => ⟨l, x :: xs, 0, 0, x, rfl, rfl, (e1.trans e2) l _ hl, by decide, by decide, by simp [seqIndex?], rfl, k H2 (e1.trans e2)⟩⟩
/-- one operand, then the other -/
theorem op_run {r : R2} {Q : VK} (ha : Ev ta σ H x) (k : ∀ H1, Ex H H1 → tb σ H1 fun y H2 => r x y H2 Q) : tOp r ta tb σ H Q := ha H (Ex.refl H) _ k
theorem s_retOp {r : R2} (ha : Ev ta σ H x) (k : ∀ H1, Ex H H1 → tb σ H1 fun y H2 => r x y H2 D.rt) : tRet (tOp r ta tb) D σ H := ha H (Ex.refl H) _ k
end
end Pd
set_option Elab.async false
set_option linter.all false
set_option maxRecDepth 100000
set_option maxHeartbeats 2000000
/-! Dt2: draws within expressions. -/
namespace Pd
open PySem PyProof.Rows L2 Evl
theorem Go.mut {t c p : Addr} {o : HO} {H H' : Hp} (g : Go t c H H') (T : Tape t c H) (hp : H p = none) : Go t c H (L2.upd H' p o) := by
  have n := T.notin hp
  refine ⟨g.1.mut hp, g.2.upd (fun z => n (by rw [z]; simp)) (fun z => n (by rw [z]; simp))⟩
section
variable {K : PySem.W.Frag} {σ : L2.St} {H H' : Hp} {ta tb te tx tl to : TE} {t u : TT} {x y z v : V} {d d' e' : PyData} {ds es : List PyData} {D : Ends} {tu tz : TS}
theorem sl_runN {th : TO} {Q : VK} (h : EvN te σ H ds) (k : ∀ p xs H1, H p = none → Ex H H1 → H1 p = some (.lst xs) → Ims H1 xs ds → th σ H1 fun hi H2 => rSlL K (.ref p) none hi H2 Q) : tSl (rSlL K) te tNoPart th σ H Q := h H (Ex.refl H) _ fun p xs H1 n e a b => k p xs H1 n e a b
/-- 1 + a drawn number -/
theorem one_more {t c : Addr} {m : Nat} {Q : VK} {E : XK} (ht : σ[0]? = some (some (.ref t))) (T : Tape t c H) (h1 : 1 ≤ m) (h2 : m ≤ 1000) (k : ∀ r : Nat, r < m → ∀ H', Go t c H H' → Q (.int ((1 + r : Nat) : Int)) H') :
    tOp (rI0 fun i j => .int (i + j)) (tC (.int 1)) (tCall sp_draw [] E (tCons (tVar 0) (tCons (tC (.int (m : Nat))) tNil))) σ H Q :=
  op_run ev_c fun H1 e1 => drawn ht (T.ex e1) (ed_i _) h1 h2 fun r hr H' g => ⟨1, r, rfl, rfl, by
    have := k r hr H' ((Go.of T e1).trans g)
    have e : ((1 + r : Nat) : Int) = 1 + (r : Int) := by omega
    rw [e] at this
    exact this⟩
/-- a drawn number == 0 -/
theorem draw_zero {t c : Addr} {m : Nat} {Q : Bool → Hp → Prop} {E : XK} (ht : σ[0]? = some (some (.ref t))) (T : Tape t c H) (h1 : 1 ≤ m) (h2 : m ≤ 1000) (k : ∀ (b : Bool) H', Go t c H H' → Q b H') :
    tTest (tOp rEq (tCall sp_draw [] E (tCons (tVar 0) (tCons (tC (.int (m : Nat))) tNil))) (tC (.int 0))) σ H Q :=
  drawn ht T (ed_i _) h1 h2 fun r hr H' g => ⟨rfl, decide (V.int (r : Nat) = V.int 0), rfl, k _ H' g⟩
/-- [x for x in l if a drawn number is 0] -/
theorem lc_draws {t c : Addr} {m j : Nat} {vs : List Nat} {l : List Str} {Q : VK} {E : XK} (hl : EvN tl σ H (l.map .str)) (hz : l.length ≤ 1000) (T : Tape t c H) (h1 : 1 ≤ m) (h2 : m ≤ 1000)
    (ht : ∀ x, ((wipe σ vs).set j (some x))[0]? = some (some (.ref t))) (hj : ∀ x, ((wipe σ vs).set j (some x))[j]? = some (some x)) (hw : ∀ x, wipe ((wipe σ vs).set j (some x)) vs = wipe σ vs)
    (k : ∀ p (ws : List Str) H', Go t c H H' → H p = none → ws.Sublist l → H' p = some (.lst (ws.map V.str)) → Q (.ref p) H') :
    tLc (iList K tl) (gName j) (tTest (tOp rEq (tCall sp_draw [] E (tCons (tVar 0) (tCons (tC (.int (m : Nat))) tNil))) (tC (.int 0)))) (tVar j) vs σ H Q := by
  refine hl H (Ex.refl H) _ fun p0 xs H2 n0 e2 g1 g2 => ?_
  have exs := g2.strs
  subst exs
  have T2 := T.ex e2
  have np0 : p0 ∉ [t, c] := T.notin n0
  refine ⟨p0, rfl, ⟨l.map V.str, SqL.of g1⟩, fun Dl hD => ?_⟩
  have W := walk_list (K := K) (a := p0) (xs := l.map V.str)
  refine lc_it W (fun i H' => Go t c H2 H' ∧ ∃ acc : List Str, acc.Sublist (l.take i) ∧ acc.length ≤ i ∧ H' Dl = some (.lst (acc.map V.str)))
    ⟨(Go.refl T2).mut T2 hD, [], List.nil_sublist _, Nat.le_refl _, upd_same⟩ (fun i H' _ p => SqL.of (p.1.at np0 g1)) (fun i x H3 H4 hi p y => ?_) fun H' p => ?_
  · obtain ⟨rfl, hx⟩ := y
    obtain ⟨g, acc, q1, q2, q3⟩ := p
    rw [List.getElem?_map] at hx
    obtain ⟨s, hs, rfl⟩ : ∃ s, l[i]? = some s ∧ V.str s = x := by
      cases e : l[i]? with
      | none => rw [e] at hx; cases hx
      | some r => rw [e] at hx; exact ⟨r, rfl, Option.some.inj hx⟩
    refine ⟨hw _, draw_zero (ht _) g.2 h1 h2 fun b H5 g5 => ?_⟩
    have D5 : H5 Dl = some (.lst (acc.map V.str)) := g5.at (T2.notin hD) q3
    have g25 := g.trans g5
    cases b with
    | true =>
      refine ⟨.str s, hj _, acc.map V.str, D5, ?_, g25.mut T2 hD, acc ++ [s], ?_, by rw [List.length_append]; show _ + 1 ≤ _; omega, by rw [List.map_append]; exact upd_same⟩
      · have : i < (l.map V.str).length := hi
        rw [List.length_map] at this
        exact sz_lt (by rw [List.length_map]; omega)
      · rw [take_more hs]
        exact List.Sublist.append q1 (List.Sublist.refl _)
    | false =>
      show Go t c H2 H5 ∧ _
      refine ⟨g25, acc, ?_, by omega, D5⟩
      rw [take_more hs]
      exact q1.trans (List.sublist_append_left _ _)
  · obtain ⟨g, acc, q1, q2, q3⟩ := p
    rw [List.length_map, List.take_length] at q1
    exact k Dl acc H' ((Go.of T e2).trans g) (fresh_back e2 hD) q1 q3
/-- what is walked, with all that the walk's making does -/
def Run (wi : TI) (σ : L2.St) (H : Hp) (M : List Addr) (C : List PyData → Hp → Prop) : Prop := ∀ R : It → Hp → Prop,
  (∀ J H2 G Y src, C src H2 → Walk J src.length G Y → (∀ H3, ExM M H2 H3 → G H3) → (∀ i H3 x H4, ExM M H2 H3 → Y i H3 x H4 → Ex H3 H4 ∧ ∃ d, src[i]? = some d ∧ Im H4 x d) → R J H2) → wi σ H R
theorem run_range {M : List Addr} {ta : TA} {C : List PyData → Hp → Prop} (h : ∀ Q : List V → Hp → Prop, (∀ (n : Nat) H1, n ≤ 100000 → C ((List.range n).map fun i => .int (i : Nat)) H1 → Q [.int (n : Nat)] H1) → ta σ H Q) : Run (iRng1 ta) σ H M C := fun R r => by
  refine h _ fun n H2 hn hc => ⟨(n : Int), rfl, by omega, by omega, r _ H2 (fun _ => True) (fun i H x H' => i < n ∧ H' = H ∧ x = .int (0 + (i : Int))) _ hc (by
      have : ((List.range n).map fun i => PyData.int (i : Nat)).length = (n : Int).toNat := by simp
      rw [this]
      exact ⟨fun _ _ hi _ => hi, fun _ _ => Nat.le_refl _, fun i _ _ _ hi _ y => ⟨by simpa using hi, y.1, y.2⟩⟩) (fun _ _ => trivial) fun i H3 x H4 e3 yy => ?_⟩
  obtain ⟨hi', rfl, rfl⟩ := yy
  have e0 : (0 : Int) + (i : Int) = (i : Int) := Int.zero_add _
  refine ⟨Ex.refl _, .int (i : Nat), ?_, by show Im H4 (.int ((0 : Int) + (i : Int))) _; rw [e0]; exact .int _⟩
  have hi := hi'
  simp [hi]
theorem run_of {wi : TI} {M : List Addr} {src : List PyData} (h : WkM M wi σ H src) : Run wi σ H M (fun s H1 => s = src ∧ Ex H H1) := fun R r => h H (Ex.refl H) R fun J H2 G Y e2 W hG hY => r J H2 G Y src ⟨rfl, e2⟩ W hG hY
/-- THE FOR over what is made, Pv by the turn -/
theorem s_forR {wi : TI} {g : TG} (M : List Addr) {C : List PyData → Hp → Prop} (hk : Run wi σ H M C)
    (h : ∀ src H2, C src H2 → ∃ Pv : Nat → L2.St → Hp → Prop, Pv 0 σ H2 ∧ (∀ i σ' H3 H4, Pv i σ' H3 → Ex H3 H4 → Pv i σ' H4) ∧
      (∀ i d x σ' H3 H4, src[i]? = some d → Ex H3 H4 → Im H4 x d → Pv i σ' H4 → g x σ' H4 fun σ2 H5 => tu { D with nx := fun σ3 H6 => Pv (i + 1) σ3 H6 ∧ ExM M H3 H6, ct := fun σ3 H6 => Pv (i + 1) σ3 H6 ∧ ExM M H3 H6, bk := D.nx } σ2 H5) ∧
      (∀ σ' H', Pv src.length σ' H' → D.nx σ' H')) : tFor wi g tu D σ H := by
  refine hk _ fun J H2 G Y src hc W hG hY => ?_
  obtain ⟨Pv, h0, hm, hs, hd⟩ := h src H2 hc
  refine ⟨fun i m σ' H' => m = src.length - i ∧ i ≤ src.length ∧ Pv i σ' H' ∧ ExM M H2 H', ⟨src.length, by simp, Nat.zero_le _, h0, ExM.refl M H2⟩, ?_⟩
  rintro i m σ' H3 ⟨rfl, hi, p, e3⟩
  by_cases hlt : i < src.length
  · refine .inr ⟨W.goes i H3 hlt (hG H3 e3), fun σ3 H6 => Pv (i + 1) σ3 H6 ∧ ExM M H3 H6, fun σ3 H6 q => ⟨src.length - (i + 1), by omega, rfl, hlt, q.1, e3.trans q.2⟩, fun x H4 y => ?_⟩
    obtain ⟨e34, d, hd', im⟩ := hY i H3 x H4 e3 (W.yields i H3 x H4 hlt (hG H3 e3) y)
    exact hs i d x σ' H3 H4 hd' e34 im (hm i σ' H3 H4 p e34)
  · have e : i = src.length := by omega
    subst e
    exact .inl ⟨W.stops H3 (hG H3 e3), hd σ' H3 p⟩
theorem q_forR {wi : TI} {g : TG} (M : List Addr) {C : List PyData → Hp → Prop} (hk : Run wi σ H M C)
    (h : ∀ src H2, C src H2 → ∃ Pv : Nat → L2.St → Hp → Prop, Pv 0 σ H2 ∧ (∀ i σ' H3 H4, Pv i σ' H3 → Ex H3 H4 → Pv i σ' H4) ∧
      (∀ i d x σ' H3 H4, src[i]? = some d → Ex H3 H4 → Im H4 x d → Pv i σ' H4 → g x σ' H4 fun σ2 H5 => tu { D with nx := fun σ3 H6 => Pv (i + 1) σ3 H6 ∧ ExM M H3 H6, ct := fun σ3 H6 => Pv (i + 1) σ3 H6 ∧ ExM M H3 H6, bk := tz D } σ2 H5) ∧
      (∀ σ' H', Pv src.length σ' H' → tz D σ' H')) : tSeq (tFor wi g tu) tz D σ H := s_forR (D := { D with nx := tz D }) M hk h
variable {P : PyData → Prop}
/-- xs.append(e), e known by what holds of it -/
theorem s_appP {l : Addr} {xs : List V} (hl : H l = some (.lst xs)) (ha : Ev ta σ H (.ref l)) (h : EvP te σ H P) (hs : ∀ d, P d → still d = true) (hz : xs.length < 100000) (k : ∀ v d H1, Ex H H1 → H1 l = some (.lst xs) → P d → Im (L2.upd H1 l (.lst (xs ++ [v]))) v d → D.nx σ (L2.upd H1 l (.lst (xs ++ [v])))) :
    tDrop (tBM K "list" rAppend ta (tCons te tNil)) D σ H := ha H (Ex.refl H) _ fun H1 e1 =>
  ⟨Or.inl ⟨rfl, xs, sq_of (e1 l _ hl)⟩, h H1 e1 _ fun v d H2 e2 p iv => ⟨l, xs, v, rfl, rfl, e2 l _ (e1 l _ hl), sz_lt hz, k v d H2 (e1.trans e2) (e2 l _ (e1 l _ hl)) p (iv.tx (tx_lst (e2 l _ (e1 l _ hl))) (hs d p))⟩⟩
/-- xs.append(a picked one) -/
theorem s_appPick {t c l p : Addr} {xs ys : List V} {E : XK} (hl : H l = some (.lst xs)) (ha : Ev ta σ H (.ref l)) (ht : σ[0]? = some (some (.ref t))) (T : Tape t c H) (hln : l ∉ [t, c]) (hp : Ev tb σ H (.ref p)) (hn : p ∉ [t, c]) (hx : H p = some (.lst ys)) (h1 : ys ≠ []) (h2 : ys.length ≤ 1000) (hz : xs.length < 100000)
    (k : ∀ (i : Nat) (x : V), ys[i]? = some x → ∀ H', Go t c H H' → H' l = some (.lst xs) → D.nx σ (L2.upd H' l (.lst (xs ++ [x])))) :
    tDrop (tBM K "list" rAppend ta (tCons (tCall sp_pick [] E (tCons (tVar 0) (tCons tb tNil))) tNil)) D σ H := ha H (Ex.refl H) _ fun H1 e1 =>
  ⟨Or.inl ⟨rfl, xs, sq_of (e1 l _ hl)⟩, picked ht (T.ex e1) (hp.mono e1) hn (e1 _ _ hx) h1 h2 fun i x hx H' g => ⟨l, xs, x, rfl, rfl, g.at hln (e1 _ _ hl), sz_lt hz, k i x hx H' ((Go.of T e1).trans g) (g.at hln (e1 _ _ hl))⟩⟩
theorem q_asgRun {i : Nat} (h : te σ H fun v H1 => tz D (σ.set i (some v)) H1) : tSeq (tAsg te (gName i)) tz D σ H := h
theorem part_run {Q : Option Int → Hp → Prop} (h : te σ H fun x H1 => ∃ i, x = .int i ∧ Q (some i) H1) : tPart te σ H Q := h
theorem q_or2 {tA tB : TT} {b1 : Bool} (h : EvT tA σ H b1) (h1 : b1 = true → ∀ H1, Ex H H1 → tu { D with nx := tz D } σ H1) (h2 : b1 = false → ∀ H1, Ex H H1 → tB σ H1 fun b H2 => if b = true then tu { D with nx := tz D } σ H2 else tz D σ H2) : tSeq (tIfS (tOr tA tB) tu tNext) tz D σ H := h H (Ex.refl H) _ fun H1 e => by
  cases b1 with
  | true => exact h1 rfl H1 e
  | false => exact h2 rfl H1 e
theorem cutV_to (k : Nat) (ds : List V) : cutV ds none (some (k : Int)) = ds.take k := by
  unfold cutV
  rw [HT.sIx_nat, HT.sIx_none, List.drop_zero, Nat.sub_zero]
  rcases Nat.le_total k ds.length with h | h
  · rw [Nat.min_eq_left h]
  · rw [Nat.min_eq_right h, List.take_of_length_le (Nat.le_refl _), List.take_of_length_le h]
theorem ep_tupOf {PL : List PyData → Prop} (h : EvNP te σ H PL) : EvP (tCB (rTupOf K) (tCons te tNil)) σ H (fun d => ∃ ds, d = .tuple ds ∧ PL ds) := fun H1 e Q q =>
  h H1 e _ fun p xs ds H2 n e2 pl a b => ⟨p, xs, rfl, .inl ⟨SqL.of a, fun l hl => q _ _ _ (e2.trans (Ex.new hl)) ⟨ds, rfl, pl⟩ (.tup upd_same (b.mono (Ex.new hl)))⟩⟩
end
end Pd
set_option Elab.async false
set_option linter.all false
set_option maxRecDepth 100000
set_option maxHeartbeats 2000000
/-! Dt3: what is left beside the tape. -/
namespace Pd
open PySem PyProof.Rows L2 Evl
section
variable {K : PySem.W.Frag} {σ : L2.St} {H H' : Hp} {ta tb te tx tl to : TE} {t u : TT} {x y z v : V} {d d' e' : PyData} {ds es : List PyData} {D : Ends} {tu tz : TS} {tp c : Addr}
theorem call_run {sp : Sp} {E : XK} {ta : TA} {vs : List V} {Q : VK} (h : EvA ta σ H vs) (k : ∀ H1, Ex H H1 → sp (vs ++ []) H1 Q E) : tCall sp [] E ta σ H Q := h H (Ex.refl H) _ k
/-- texts in a list, the tape drawn from meanwhile -/
def EvGL (tp c : Addr) (te : TE) (σ : L2.St) (H : Hp) (P : List Str → Prop) : Prop := ∀ Q : VK, (∀ p ls H2, Go tp c H H2 → H p = none → H2 p = some (.lst (ls.map V.str)) → P ls → Q (.ref p) H2) → te σ H Q
theorem eg_of {ls : List Str} {P : List Str → Prop} (T : Tape tp c H) (h : EvN te σ H (ls.map .str)) (hp : P ls) : EvGL tp c te σ H P := fun Q q => h H (Ex.refl H) Q fun p xs H2 n e a b => by
  have ex := b.strs
  subst ex
  exact q p ls H2 (Go.of T e) n a hp
theorem eg_cat {P P' : List Str → Prop} (ha : EvGL tp c ta σ H P) (T : Tape tp c H) (hb : ∀ H1, Go tp c H H1 → EvGL tp c tb σ H1 P') (hz : ∀ l m, P l → P' m → l.length + m.length ≤ 100000) : EvGL tp c (tOp rCat ta tb) σ H (fun x => ∃ l m, P l ∧ P' m ∧ x = l ++ m) := fun Q q =>
  ha _ fun p ls H1 g n a p1 => hb H1 g _ fun p' ms H2 g' n' a' p2 => by
    have e2 := g'.at (T.notin n) a
    refine ⟨p, p', _, _, rfl, rfl, e2, a', sz_of (by rw [List.length_map, List.length_map]; exact hz _ _ p1 p2), fun r hr => ?_⟩
    refine q r (ls ++ ms) _ ((g.trans g').ex (Ex.new hr)) ?_ (by rw [List.map_append]; exact upd_same) ⟨ls, ms, p1, p2, rfl⟩
    cases c0 : H r with
    | none => rfl
    | some o =>
      by_cases hm : r ∈ [tp, c]
      · exfalso
        have T2 := (g.trans g').2
        rcases List.mem_cons.mp hm with rfl | hm
        · exact T2.some_t hr
        · rcases List.mem_cons.mp hm with rfl | hm
          · exact T2.some_c hr
          · cases hm
      · rw [(g.trans g').at hm c0] at hr
        cases hr
theorem q_asgGL {i : Nat} {P : List Str → Prop} (h : EvGL tp c te σ H P) (k : ∀ p ls H2, Go tp c H H2 → H p = none → H2 p = some (.lst (ls.map V.str)) → P ls → tz D (σ.set i (some (.ref p))) H2) : tSeq (tAsg te (gName i)) tz D σ H := h _ k
/-- arguments of which none is the tape -/
def Off (tp c : Addr) (v : V) : Prop := v ≠ .ref tp ∧ v ≠ .ref c
def EvO1 (tp c : Addr) (te : TE) (σ : L2.St) (H : Hp) (d : PyData) : Prop := ∀ H1, Ex H H1 → ∀ Q : VK, (∀ v H2, Ex H1 H2 → Im H2 v d → Off tp c v → Q v H2) → te σ H1 Q
def EvOs (tp c : Addr) (ta : TA) (σ : L2.St) (H : Hp) (ds : List PyData) : Prop := ∀ H1, Ex H H1 → ∀ Q : List V → Hp → Prop, (∀ vs H2, Ex H1 H2 → Ims H2 vs ds → (∀ v ∈ vs, Off tp c v) → Q vs H2) → ta σ H1 Q
theorem Tape.off {p : Addr} (T : Tape tp c H) (h : H p = none) : Off tp c (.ref p) := by
  have n := T.notin h
  exact ⟨fun z => n (by cases z; simp), fun z => n (by cases z; simp)⟩
theorem eo_new (T : Tape tp c H) (h : EvN te σ H ds) : EvO1 tp c te σ H (.list ds) := fun H1 e Q q => h H1 e Q fun p xs H2 n e2 a b => q _ H2 e2 (.lst a b) ((T.ex e).off n)
theorem eo_tup (T : Tape tp c H) (h : EvD te σ H (.tuple ds)) : EvO1 tp c te σ H (.tuple ds) := fun H1 e Q q => h H1 e Q fun v H2 e2 iv => q v H2 e2 iv (by
  obtain ⟨p, xs, rfl, g1, g2⟩ := iv.t
  have T2 := T.ex (e.trans e2)
  obtain ⟨_, ⟨s, h1, _⟩, ⟨ns, h2, _⟩⟩ := T2
  exact ⟨fun z => (by cases z; rw [g1] at h1; cases h1), fun z => (by cases z; rw [g1] at h2; cases h2)⟩)
theorem eo_non : EvO1 tp c (tC .non) σ H .none := fun H1 e Q q => q _ H1 (Ex.refl H1) .non ⟨fun z => (by cases z), fun z => (by cases z)⟩
theorem EvOs.is {ta : TA} {es : List PyData} (h : EvOs tp c ta σ H ds) (e : ds = es) : EvOs tp c ta σ H es := e ▸ h
theorem eos0 : EvOs tp c tNil σ H [] := fun H1 _ _ q => q _ H1 (Ex.refl H1) .nil (fun v hv => by cases hv)
theorem eos1 {tr : TA} (h : EvO1 tp c ta σ H d) (hr : EvOs tp c tr σ H ds) : EvOs tp c (tCons ta tr) σ H (d :: ds) := fun H1 e _ q =>
  h H1 e _ fun v H2 e2 i2 o2 => hr H2 (e.trans e2) _ fun vs H3 e3 i3 o3 => q _ H3 (e2.trans e3) (.cons (i2.mono e3) i3) (fun w hw => by
    rcases List.mem_cons.mp hw with rfl | hw
    · exact o2
    · exact o3 w hw)
theorem callA {sp : Sp} {E : XK} {ta : TA} {Q : VK} (k : ta σ H fun vs H1 => sp (vs ++ []) H1 Q E) : tCall sp [] E ta σ H Q := k
theorem callSA {sp : Sp} {E : L2.St → XK} {ta : TA} {Q : VK} (k : ta σ H fun vs H1 => sp vs H1 Q (E σ)) : tCallS sp E ta σ H Q := k
theorem q_dropA (k : te σ H fun _ H1 => tz D σ H1) : tSeq (tDrop te) tz D σ H := k
theorem consA {tr : TA} {Q : List V → Hp → Prop} (k : te σ H fun v H1 => tr σ H1 fun vs H2 => Q (v :: vs) H2) : tCons te tr σ H Q := k
theorem lstA {ta : TA} {Q : VK} (k : ta σ H fun xs H1 => xs.length ≤ sizeLine ∧ ∀ p, H1 p = none → Q (.ref p) (L2.upd H1 p (.lst xs))) : tLst ta σ H Q := k
theorem var_run {i : Nat} {Q : VK} (h : σ[i]? = some (some v)) (k : Q v H) : tVar i σ H Q := ⟨v, h, k⟩
/-- one of some is picked: what it is, where -/
inductive Pk (H : Hp) : V → PyData → Prop
  | still {v : V} {d : PyData} : Pd.still d = true → Im H v d → Pk H v d
  | lst {p : Addr} {xs : List V} {ds : List PyData} : H p = some (.lst xs) → stills ds = true → Ims H xs ds → Pk H (.ref p) (.list ds)
theorem Pk.im {v : V} {d : PyData} (h : Pk H v d) : Im H v d := by
  cases h with
  | still _ h => exact h
  | lst h1 _ h2 => exact .lst h1 h2
def flat1 (d : PyData) : Bool := match d with
  | .list ds => stills ds
  | d => Pd.still d
theorem picked_of {it : Nat} {ta : TA} {Q : VK} {E : XK} (ht : σ[it]? = some (some (.ref tp))) (T : Tape tp c H) (h : EvOs tp c ta σ H ds) (h1 : ds ≠ []) (h2 : ds.length ≤ 1000) (hf : ∀ d ∈ ds, flat1 d = true) (k : ∀ v d, d ∈ ds → ∀ H', Go tp c H H' → Im H' v d → Q v H') :
    tCall sp_pick [] E (tCons (tVar it) (tCons (tLst ta) tNil)) σ H Q := by
  refine callA (consA (var_run ht (consA (lstA ?_))))
  refine h H (Ex.refl H) _ fun vs H2 e2 iv off => ⟨sz_of (by rw [iv.length]; omega), fun p hp => ?_⟩
  have T2 := T.ex e2
  have TP := T2.ex (Ex.new (o := .lst vs) hp)
  refine ⟨tp, c, p, vs, rfl, TP, T2.notin hp, upd_same, fun z => ?_, by rw [iv.length]; omega, fun i x hx H' g => ?_⟩
  · subst z
    cases iv
    exact h1 rfl
  · have iv' := iv.mono (Ex.new (o := .lst vs) hp)
    obtain ⟨d, hd, im⟩ := iv'.get hx
    have hm := List.mem_of_getElem? hd
    have ho := off x (List.mem_of_getElem? hx)
    have gg := (Go.of T (e2.trans (Ex.new (o := .lst vs) hp))).trans g
    refine k x d hm H' gg ?_
    have f := hf d hm
    cases im with
    | non => exact .non
    | bl b => exact .bl _
    | int i => exact .int _
    | str s => exact .str _
    | lst a b =>
      exact .lst (g.at (fun z => by
        rcases List.mem_cons.mp z with rfl | z
        · exact ho.1 rfl
        · rcases List.mem_cons.mp z with rfl | z
          · exact ho.2 rfl
          · cases z) a) (b.tx g.1.2 f)
    | tup a b => exact (Im.tup a b).tx g.1.2 f
end
end Pd
set_option Elab.async false
set_option linter.all false
set_option maxRecDepth 100000
set_option maxHeartbeats 2000000
/-! Mt: match of a tuple, its first item a text that tells the case. -/
namespace Pd
open PySem PySem.Spec PyProof.Rows L2 Evl
/-- the slots that the names take; none: no name -/
def setAll : L2.St → List (Option Nat) → List V → L2.St
  | σ, some i :: is, v :: vs => setAll (σ.set i (some v)) is vs
  | σ, none :: is, _ :: vs => setAll σ is vs
  | σ, _, _ => σ
abbrev TMc := List V → TS
def mEnd : TMc := fun _ D σ H => D.nx σ H
def mSeq (w : Str) (is : List (Option Nat)) (tb : TS) (tr : TMc) : TMc := fun xs D σ H => if xs.length = is.length + 1 then ∃ x vs, xs = .str x :: vs ∧ (if x = w then tb D (setAll σ is vs) H else tr xs D σ H) else tr xs D σ H
def tMatch (K : PySem.W.Frag) (te : TE) (tm : TMc) : TS := fun D σ H => te σ H fun x H1 => ∃ a xs, x = .ref a ∧ SqT K H1 a xs ∧ tm xs D σ H1
structure PMc (X : Cx) (cases : List MatchCase) (t : TMc) : Prop where
  run : ∀ (pins : List (Addr × Obj)) (s : Shared) (σ : L2.St) (H : Hp) (D : Ends) (a : Addr) (xs : List V) (first : Bool), Inv X pins σ H s → SqT X.K H a xs → t xs D σ H → wpAny (model X.prog X.w) X.A (matchCases cases X.env (.ref a) first) (SP X pins D) X.xe s
inductive CapOk (X : Cx) : List Pattern → List (Option Nat) → Prop
  | nil : CapOk X [] []
  | name {n : Str} {i : Nat} {pos : Pos} {ps : List Pattern} {is : List (Option Nat)} : X.N[i]? = some n → Loc X.env.scope n → (X.fn n = true ∨ X.env.scope.names.lookup n = some .local) → CapOk X ps is → CapOk X (.MatchAs none (some n) pos :: ps) (some i :: is)
  | any {pos : Pos} {ps : List Pattern} {is : List (Option Nat)} : CapOk X ps is → CapOk X (.MatchAs none none pos :: ps) (none :: is)
def caps : List Pattern → List Value → List (Str × Value)
  | .MatchAs none name _ :: ps, u :: us => (name.map (·, u)).toList ++ caps ps us
  | _, _ => []
section
variable {X : Cx}
theorem CapOk.len {ps : List Pattern} {is : List (Option Nat)} (h : CapOk X ps is) : ps.length = is.length := by
  induction h with
  | nil => rfl
  | name _ _ _ _ ih => simp [ih]
  | any _ ih => simp [ih]
theorem match_caps {M : Model} {A : Around} {E : Value → Shared → Prop} {ps : List Pattern} {is : List (Option Nat)} (h : CapOk X ps is) : ∀ {us : List Value} {s : Shared} {Q : Option (List (Str × Value)) → Shared → Prop}, us.length = ps.length → Q (some (caps ps us)) s → wpAny M A (matchEach ps X.env us) Q E s := by
  induction h with
  | nil => intro us s Q hl q; exact wpAny_matchEach_nil q
  | @name n i pos ps is h1 h2 h3 h4 ih =>
    intro us s Q hl q
    cases us with
    | nil => simp at hl
    | cons u us =>
      refine wpAny_matchEach_cons (wpAny_matchPattern_Capture ?_)
      refine ih (by simpa using hl) ?_
      exact q
  | @any pos ps is h4 ih =>
    intro us s Q hl q
    cases us with
    | nil => simp at hl
    | cons u us =>
      refine wpAny_matchEach_cons (wpAny_matchPattern_Capture ?_)
      refine ih (by simpa using hl) ?_
      exact q
theorem bind_caps (hN : X.N.Nodup) {E : Value → Shared → Prop} {ps : List Pattern} {is : List (Option Nat)} (h : CapOk X ps is) : ∀ {us : List Value} {vs : List V} {pins : List (Addr × Obj)} {σ : L2.St} {H : Hp} {s : Shared} {Q : Unit → Shared → Prop}, Vals vs us → us.length = ps.length → Inv X pins σ H s →
    (∀ s', Inv X pins (setAll σ is vs) H s' → Q () s') → wpAny (model X.prog X.w) X.A (assignInOrder ((caps ps us).map fun (n, _) => bindName X.env n) ((caps ps us).map (·.2))) Q E s := by
  induction h with
  | nil =>
    intro us vs pins σ H s Q r hl I q
    cases us with
    | nil => cases r; exact assignInOrder_nil (q s I)
    | cons u us => simp at hl
  | @name n i pos ps is h1 h2 h3 h4 ih =>
    intro us vs pins σ H s Q r hl I q
    cases us with
    | nil => simp at hl
    | cons u us =>
      cases r with
      | cons rv rvs =>
        refine assignInOrder_cons (wpAny_bindName (store_ok I hN h1 h2 rv (fun s' I' => ?_) h3))
        exact ih rvs (by simpa using hl) I' q
  | @any pos ps is h4 ih =>
    intro us vs pins σ H s Q r hl I q
    cases us with
    | nil => simp at hl
    | cons u us =>
      cases r with
      | cons rv rvs => exact ih rvs (by simpa using hl) I q
theorem pmc_nil : PMc X [] mEnd := ⟨fun pins s σ H D a xs first I hq h => wpAny_matchCases_nil ⟨σ, H, I, h⟩⟩
theorem pmc_seq {w : Str} {j : Nat} {ps : List Pattern} {is : List (Option Nat)} {body : List Stmt} {rest : List MatchCase} {tb : TS} {tr : TMc} {p1 p2 p3 : Pos} (hc : X.calm = true) (hN : X.N.Nodup) (hps : CapOk X ps is) (hb : PSs X body tb) (hr : PMc X rest tr)
    (hstar : (Pattern.MatchValue (.Constant (.str w) j p1) p2 :: ps).findIdx? (·.isStar) = none := by rfl) (hwild : ((Pattern.MatchValue (.Constant (.str w) j p1) p2 :: ps).all fun p => p.isWildcard || (p.isStar && p.names.isEmpty)) = false := by rfl) :
    PMc X (⟨.MatchSequence (.MatchValue (.Constant (.str w) j p1) p2 :: ps) p3, none, body⟩ :: rest) (mSeq w is tb tr) := by
  refine ⟨fun pins s σ H D a xs first I hq h => ?_⟩
  obtain ⟨its, rv, ht, hz⟩ := I.tuple hq
  have hl : xs.length = its.length := rv.length
  refine wpAny_matchCases_cons (wpAny_matchPattern_Sequence (wpAny_collectionFlag ht.typeIs flag_seq_tuple ?_) hstar hwild)
  show wpAny _ _ (pyLen (.ref a)) _ _ s
  have hfit : (its.toArray.size : Int) < 2 ^ 63 := by
    have : its.toArray.size ≤ sizeLine := by simpa [← hl] using hz
    rw [sizeLine_eq] at this
    omega
  refine pyLen_tuple ht hfit ?_
  have I1 : Inv X pins σ H { s with toks := s.toks + 1 + 1 } := I.tok _
  have hlen : (Pattern.MatchValue (.Constant (.str w) j p1) p2 :: ps).length = is.length + 1 := by rw [List.length_cons, hps.len]
  unfold mSeq at h
  by_cases hn : xs.length = is.length + 1
  · rw [if_pos hn] at h
    obtain ⟨x, vs, rfl, h⟩ := h
    cases rv with
    | @cons _ u0 _ us r0 rvs =>
      have he : ¬ ((((u0 :: us).toArray.size : Nat) : Int) != ((Pattern.MatchValue (.Constant (.str w) j p1) p2 :: ps).length : Int)) = true := by
        rw [hlen, ← hn, hl]
        simp
      rw [if_neg he]
      have hps2 : us.length = ps.length := by
        have := hps.len
        simp only [List.length_cons] at hn hl
        omega
      have hsz : (Pattern.MatchValue (.Constant (.str w) j p1) p2 :: ps).length = (u0 :: us).toArray.size := by simp [hps2]
      rw [hsz]
      refine unpackItems_tuple (I.ok.hd hc) ht fun h' hx => ?_
      have I2 : Inv X pins σ H { s with heap := h', toks := s.toks + 1 + 1 } := I1.kept (t' := s.toks + 1 + 1) fun b o e => hx b o (Nat.ne_of_lt (Heap.lt_size e)) e
      show wpAny _ _ (matchEach (_ :: ps) X.env (u0 :: us)) _ _ _
      refine wpAny_matchEach_cons (wpAny_matchPattern_Value (thn ((pe_str (X := X) (x := w) (j := j) (pos := p1)).run pins _ σ H (fun v H' => v = .str w ∧ H' = H) I2 ⟨rfl, rfl⟩) fun u s2 ⟨v, H1, I3, ru, e1, e2⟩ => ?_))
      subst e1 e2
      refine thn (op_eq pins s2 σ H1 (.str x) (.str w) u0 u (fun z H' => z = .bl (decide (x = w)) ∧ H' = H1) I3 r0 ru ⟨rfl, ?_, rfl⟩) fun cv s3 ⟨z, H2, I4, rz, e3, e4⟩ => ?_
      · by_cases c : x = w <;> simp [c]
      subst e3 e4
      cases rz
      refine wpAny_truthy_bool ?_
      by_cases c : x = w
      · rw [if_pos c] at h
        rw [decide_eq_true c]
        show wpAny _ _ (matchEach ps X.env us) _ _ s3
        refine match_caps hps hps2 ?_
        show wpAny _ _ (assignInOrder (([] ++ caps ps us : List (Str × Value)).map fun (n, _) => bindName X.env n) (([] ++ caps ps us : List (Str × Value)).map (·.2))) _ _ s3
        rw [List.nil_append]
        refine bind_caps hN hps rvs hps2 I4 fun s' I' => ?_
        exact hb.run pins s' _ H2 D I' h
      · rw [if_neg c] at h
        rw [decide_eq_false c]
        exact hr.run pins s3 σ H2 D a _ false I4 hq h
  · rw [if_neg hn] at h
    have he : ((((its.toArray.size : Nat) : Int)) != ((Pattern.MatchValue (.Constant (.str w) j p1) p2 :: ps).length : Int)) = true := by
      rw [hlen]
      simp only [List.size_toArray, bne_iff_ne, ne_eq]
      omega
    rw [if_pos he]
    exact hr.run pins _ σ H D a xs false I1 hq h
theorem ps_match {e : Expr} {te : TE} {cases : List MatchCase} {tm : TMc} {pos : Pos} (he : PE X e te) (hm : PMc X cases tm) : PS X (.Match e cases pos) (tMatch X.K te tm) := by
  refine ⟨fun pins s σ H D I h => ?_⟩
  refine wpAny_Match (thn (he.run pins s σ H _ I h) fun u s1 ⟨x, H1, I1, rx, a, xs, ex, hq, h1⟩ => ?_)
  subst ex
  cases rx
  exact hm.run pins s1 σ H1 D a xs true I1 hq h1
end
end Pd
set_option Elab.async false
set_option linter.all false
set_option maxRecDepth 100000
set_option maxHeartbeats 2000000
/-! En: enumerate(a tuple). -/
namespace Pd
open PySem PySem.Spec PyProof.Rows L2 Evl
open AutoSeq1 (wpAny_loadPart')
theorem enum_newT (l : Addr) (items : Array Value) (n : Nat) (dct : Option Addr) (sl : Array (Option Value)) :
    Meets (Builtin.«enumerate.__new__» ⟨[.type "enumerate", .ref l], []⟩) (fun _ R s => s.heap.get? l = some { cls := .type "tuple", dict := dct, data := .seq items n, slots := sl } ∧
      R (.ok (.ret (.ref (s.heap.push { cls := .type "tuple_iterator", data := .fields #[.ref l, .int 0 0] }).objs.size)))
        { s with heap := (s.heap.push { cls := .type "tuple_iterator", data := .fields #[.ref l, .int 0 0] }).push { cls := .type "enumerate", data := .fields #[.none, .bool false, .ref s.heap.objs.size, rawInt 0, .none, .none] } }) :=
  .of_wp fun prog w A R s h => by
    obtain ⟨hp, g, d, tk, os⟩ := s; obtain ⟨hl, h⟩ := h
    have hsub := sub_enumerate
    have hL : IsTup (Shared.heap ⟨hp, g, d, tk, os⟩) l items := ⟨_, hl, rfl, n, rfl⟩
    wp_walk using wpAny_loadPart' hl
    refine wpAny_stack_any fun st => wpAny_pure ?_
    split
    · rename_i c _ _ _ _ _
      cases (c == Value.type "enumerate")
      · wp_walk using wpAny_loadPart' hl, iter_tuple hL
        exact ⟨_, rfl, h⟩
      · wp_walk using wpAny_loadPart' hl, iter_tuple hL
        exact ⟨_, rfl, h⟩
    · wp_walk using wpAny_loadPart' hl, iter_tuple hL
      exact ⟨_, rfl, h⟩
section
variable {prog : Program} {w : World} {A : Around} {E : Value → Shared → Prop} {s : Shared}
theorem call_enumT {l : Addr} {items : Array Value} {Q : Value → Shared → Prop} (hL : IsTup s.heap l items)
    (h : ∀ h', IsEnum h' (s.heap.objs.size + 1) s.heap.objs.size 0 .none → h'.IsTupleIter s.heap.objs.size l 0 → h'.objs.size = s.heap.objs.size + 2 →
      (∀ b o, s.heap.get? b = some o → h'.get? b = some o) → Q (.ref (s.heap.objs.size + 1)) { s with heap := h' }) :
    wpAny (model prog w) A (call (.type "enumerate") [.ref l]) Q E s := by
  obtain ⟨⟨c, dct, dt, sl⟩, hl, hc, n, hd⟩ := hL
  replace hc : c = .type "tuple" := hc
  replace hd : dt = .seq items n := hd
  subst hc hd
  refine callType_new F.called_enumerate (by decide) (F.typeCall_enumerate_1 _) (F.newCall_enumerate_1 _) (fun obj => F.args_object_init_2 obj _) F.entry_enumerate_new
    (enum_newT l items n dct sl) ⟨hl, ?_⟩
  have hz : (s.heap.push { cls := .type "tuple_iterator", data := .fields #[.ref l, .int 0 0] }).objs.size = s.heap.objs.size + 1 := Heap.size_push ..
  show _ ∧ _
  rw [hz]
  have he : IsEnum ((s.heap.push { cls := .type "tuple_iterator", data := .fields #[.ref l, .int 0 0] }).push
      { cls := .type "enumerate", data := .fields #[.none, .bool false, .ref s.heap.objs.size, rawInt 0, .none, .none] }) (s.heap.objs.size + 1) s.heap.objs.size 0 .none := by
    have := Heap.get?_push_size (s.heap.push { cls := .type "tuple_iterator", data := .fields #[.ref l, .int 0 0] })
      (o := { cls := .type "enumerate", data := .fields #[.none, .bool false, .ref s.heap.objs.size, rawInt 0, .none, .none] }) rfl
    rw [hz] at this; exact this
  refine ⟨⟨_, he, rfl⟩, h _ he ⟨_, Heap.get?_push_of_some _ (Heap.get?_push_size _ rfl), rfl, rfl⟩ (by rw [Heap.size_push, hz]) fun b o x => Heap.get?_push_of_some _ (Heap.get?_push_of_some _ x)⟩
end
/-- the tuple at a, each item in a new pair -/
def Iet (K : PySem.W.Frag) (a : Addr) : It :=
  ⟨fun i H => ∃ (xs : List V) (x : V), SqT K H a xs ∧ xs[i]? = some x, fun i H v H' => ∃ T x, v = .ref T ∧ H T = none ∧ H' = upd H T (.tup [.int (i : Nat), x]) ∧ ∀ xs, SqT K H a xs → xs[i]? = some x, fun i H => ∃ xs : List V, SqT K H a xs ∧ xs.length ≤ i⟩
theorem IsTup.isTuple {h : Heap} {a : Addr} {items : Array Value} (x : IsTup h a items) : h.IsTuple a items := x
theorem turn_enumT {P : Program} {w : World} {K : PySem.W.Frag} {elts : List Expr} {kk : Nat} {tpos : Pos} (a e it : Addr) :
    Turn P w K (.Tuple elts kk tpos) (Iet K a) [e, it] e (fun i h => (∃ old, IsEnum h e it ((i : Nat) : Int) old) ∧ h.IsTupleIter it a i ∧ e ≠ it) where
  mem := by simp
  obj := fun i h st b hb => by
    obtain ⟨⟨old, he⟩, ⟨o, ho, hc, hd⟩, _⟩ := st
    have e' : b = e ∨ b = it := by simpa using hb
    rcases e' with z | z
    · rw [z]; exact ⟨_, he, fun v q => nomatch q⟩
    · rw [z]; exact ⟨o, ho, fun v q => by rw [hd] at q; cases q⟩
  keep := fun i h h' st k => let ⟨⟨old, he⟩, hi, hne⟩ := st; ⟨⟨old, k e (by simp) _ he⟩, hi.at fun o q => k it (by simp) o q, hne⟩
  item := by
    intro X hP hw hK hc i pins s σ H E I hf st hg
    subst hP hw hK
    obtain ⟨⟨old, he⟩, hit, hne⟩ := st
    obtain ⟨xs, x, hq, hx⟩ := hg
    obtain ⟨its, rv, p, hz⟩ := I.tuple hq
    obtain ⟨u, hu, ru⟩ := rv.get hx
    have hel : e < s.heap.objs.size := Heap.lt_size he
    have hil : it < s.heap.objs.size := by obtain ⟨_, q, _⟩ := hit; exact Heap.lt_size q
    have hai : a ≠ it := fun z => by
      obtain ⟨o1, g1, c1, _⟩ := p
      obtain ⟨o2, g2, c2, _⟩ := hit
      rw [z, g2] at g1
      cases g1
      rw [c2] at c1
      exact absurd (Value.type.inj c1) (by decide)
    have hae : a ≠ e := fun z => by
      obtain ⟨o1, g1, c1, _⟩ := p
      rw [z, he] at g1
      cases g1
      have c1' : Value.type "enumerate" = Value.type "tuple" := c1
      exact absurd (Value.type.inj c1') (by decide)
    have hlt : i < its.toArray.size := by
      have := (List.getElem?_eq_some_iff.mp hu).1
      simpa using this
    refine wpAny_pyNext_enum_itemD (Draws.tuple (show X.A.in1.handled = none from I.ok.hd hc) it a hai its.toArray) he ⟨hit, p⟩ hlt hne (by simp [hne, Ne.symm hae]) fun x' h' tk hx' ho hit' hT hsz hk => ?_
    have exx : x' = u := by
      have : its.toArray[i]? = some u := by simpa using hu
      rw [this] at hx'
      exact (Option.some.inj hx').symm
    subst exx
    refine ⟨_, rfl, wpAny_letOwnedTupleGo_enum (s := { s with heap := h', toks := tk + 1 }) ho fun h'' he' sb => ?_⟩
    have hT2 : h''.get? s.heap.objs.size = some { cls := .type "tuple", data := .seq #[.int i tk, x'] } := (sb.2 _ (Nat.ne_of_gt hel)).trans hT
    have new : ObjOk X.prog X.w (upd H s.heap.objs.size (.tup [.int (i : Nat), x])) h'' s.heap.objs.size (.tup [.int (i : Nat), x]) :=
      ⟨by show 2 ≤ sizeLine; decide, [.int i tk, x'], .cons ⟨_, rfl⟩ (.cons ru .nil), ⟨_, hT2, rfl, _, rfl⟩⟩
    have I1 : Inv X pins σ (upd H s.heap.objs.size (.tup [.int (i : Nat), x])) { s with heap := h'', toks := tk + 1 } :=
      I.turnedNew (ch := [e, it]) (fun b ob hb q => (sb.2 b (fun z => hb (by simp [z]))).trans (hk b ob (fun z => hb (by simp [z])) (fun z => hb (by simp [z])) q)) hf (Nat.le_refl _) new
    refine ⟨.ref s.heap.objs.size, _, I1, rfl, ⟨_, x, rfl, I.hok.fresh (Nat.le_refl _), rfl, fun ys hy => by rw [I.tuple_inj hy hq]; exact hx⟩, ⟨⟨x', ?_⟩, hit'.1.at fun o q => (sb.2 it (Ne.symm hne)).trans q, hne⟩, fun b hb => ?_⟩
    · have e1 : ((i + 1 : Nat) : Int) = (i : Int) + 1 := by omega
      rw [e1]; exact he'
    · have hb' : b < s.heap.objs.size := by
        have e' : b = e ∨ b = it := by simpa using hb
        rcases e' with z | z
        · rw [z]; exact hel
        · rw [z]; exact hil
      rw [upd_ne (Nat.ne_of_lt hb')]
      exact (hf b hb).1
  done := by
    intro X hP hw hK hc i pins s σ H E I hf st hg
    subst hP hw hK
    obtain ⟨⟨old, he⟩, hit, hne⟩ := st
    obtain ⟨xs, hq, hx⟩ := hg
    obtain ⟨its, rv, p, hz⟩ := I.tuple hq
    obtain ⟨f0, f1, f2, f3, f4, f5⟩ := hf it (by simp)
    have hl := rv.length
    have hT : s.TypeIs (.ref e) "enumerate" := ⟨_, he, rfl⟩
    unfold pyNext
    refine wpAny_bind (wpAny_attempt (wpAny_callSpecial?_slot (name := Str.ofString "__next__") hT F.slot_enumerate_next
      (wpAny_call_entry F.slot_enumerate_next hT F.entry_enumerate_next ?_ (F.args_enumerate_next_1 _))))
    show wpAny _ _ (field (.ref e) 2 >>= _) _ _ _
    refine wpAny_bind (wpAny_field he rfl (x := .ref it) rfl ?_)
    refine wpAny_bind (wpAny_nextOf_tuple_end (show X.A.in1.handled = none from I.ok.hd hc) hit p (by simp; omega) fun h' x he' hx' => ?_)
    obtain ⟨o, ho, hc'⟩ := hx'
    refine wpAny_bind (wpAny_isInstance (T := "StopIteration") (b := true) ⟨o, ho, hc'⟩ isSubtype_stop ?_)
    exact wpAny_pure ⟨rfl, I.turned (t' := s.toks) (fun b o hb q => he' b o hb q) f0 f1 f3 f4 f5⟩
  self := fun A i s Q E st h => let ⟨⟨_, he⟩, _⟩ := st; wpAny_pyIter_enum he h
def iEnumT (K : PySem.W.Frag) (ta : TA) : TI := fun σ H R => ta σ H fun vs H1 => ∃ a xs, vs = [.ref a] ∧ SqT K H1 a xs ∧ R (Iet K a) H1
theorem pi_enumT {X : Cx} {e : Expr} {ta : TA} {p pos tpos : Pos} {elts : List Expr} {kk : Nat} (hg : Gl X "enumerate") (hm : X.mg "enumerate" = none) (ha : PA X [e] ta) (hs : starEach [e] X.env = [(false, eval e X.env)] := by rfl) :
    PI X (.Tuple elts kk tpos) (.Call (.Name "enumerate" p) [e] [] pos) (iEnumT X.K ta) := by
  refine ⟨fun pins s σ H R I h => ?_⟩
  refine PyProof.Rows.Call_ (ld_blt I hg hm boot_enumerate (PyProof.Rows.callWith_type1 (thn (ha.run pos pins s σ H _ I h) fun us s1 ⟨vs, H1, I1, r1, q1⟩ => ?_) hs rfl))
  obtain ⟨a, xs, ex, hq, q⟩ := q1
  subst ex
  cases r1 with
  | cons r rr =>
    cases rr
    cases r
    obtain ⟨its, rv, p', hz⟩ := I1.tuple hq
    refine call_enumT p' fun h' he hit hsz hk => wpAny_pyIter_enum he ?_
    have I2 : Inv X pins σ H1 { s1 with heap := h' } := I1.kept (t' := s1.toks) hk
    refine ⟨s1.heap.objs.size + 1, [s1.heap.objs.size + 1, s1.heap.objs.size], _, _, H1, rfl, I2, turn_enumT a (s1.heap.objs.size + 1) s1.heap.objs.size, ⟨⟨.none, he⟩, hit, Nat.succ_ne_self _⟩, fun b hb => ?_, q⟩
    have e' : b = s1.heap.objs.size + 1 ∨ b = s1.heap.objs.size := by simpa using hb
    have hle : s1.heap.objs.size ≤ b := by
      rcases e' with z | z
      · rw [z]; exact Nat.le_add_right _ _
      · rw [z]; exact Nat.le_refl _
    exact I1.fpOk hle (I1.hok.fresh hle)
theorem k_pi_enumT {X : Cx} {K : PySem.W.Frag} (hK : X.K = K) {e : Expr} {ta : TA} {p pos tpos : Pos} {elts : List Expr} {kk : Nat} (hg : Gl X "enumerate") (hm : X.mg "enumerate" = none) (ha : PA X [e] ta) (hs : starEach [e] X.env = [(false, eval e X.env)] := by rfl) :
    PI X (.Tuple elts kk tpos) (.Call (.Name "enumerate" p) [e] [] pos) (iEnumT K ta) := by subst hK; exact pi_enumT hg hm ha hs
theorem walk_enumT {K : PySem.W.Frag} {a : Addr} {xs : List V} : Walk (Iet K a) xs.length (fun H => SqT K H a xs) (YPair (fun i => some (.int (i : Nat))) (fun i => xs[i]?)) :=
  ⟨fun i _ hi q => ⟨xs, xs[i], q, by simp [hi]⟩, fun _ q => ⟨xs, q, Nat.le_refl _⟩, fun i H v H' _ q y => by
    obtain ⟨T, x, e1, e2, e3, e4⟩ := y
    exact ⟨T, _, x, e1, e2, e3, rfl, e4 xs q⟩⟩
theorem wm_enumT {K : PySem.W.Frag} {σ : L2.St} {H : Hp} {tl : TE} {ds : List PyData} {M : List Addr} (h : EvD tl σ H (.tuple ds)) (hs : stills ds = true) : WkM M (iEnumT K (tCons tl tNil)) σ H (numbered 0 ds) := fun H1 e R r =>
  h H1 e _ fun v H2 e2 iv => by
    obtain ⟨p, xs, rfl, g1, g2⟩ := iv.t
    refine ⟨p, xs, rfl, SqT.of g1, r _ H2 (fun H => SqT K H p xs) (YPair (fun i => some (.int (i : Nat))) (fun i => xs[i]?)) e2 (by rw [numbered_length, ← g2.length]; exact walk_enumT) (fun H3 e3 => SqT.of (e3.2 _ _ g1)) fun i H3 x H4 e3 yy => ?_⟩
    obtain ⟨T, a, b, rfl, hT, rfl, ha, hb⟩ := yy
    obtain ⟨d2, hd2, im2⟩ := (g2.tx e3.2 hs).get hb
    have ea : a = .int (i : Nat) := (Option.some.inj ha).symm
    subst ea
    refine ⟨Ex.new hT, .tuple [.int (i : Nat), d2], ?_, .tup upd_same (.cons (.int _) (.cons (im2.mono (Ex.new hT)) .nil))⟩
    have := numbered_get ds 0 i d2 hd2
    rw [Nat.zero_add] at this
    exact this
end Pd
set_option Elab.async false
set_option linter.all false
set_option maxRecDepth 100000
set_option maxHeartbeats 2000000
/-! Cm: methods and instances. -/
namespace Pd
open PySem PySem.Spec PyProof.Rows L2 Evl
/-- a method of the class at C, its promise kept -/
structure CalM (P : Program) (w : World) (K : PySem.W.Frag) (mg : Str → Option Value) (base : Heap) (CX : CXT) (k : Nat) (C : Addr) (m : Str) (ps : List Str) (sp : Sp) : Prop where
  ex : ∃ (f : Addr) (fd : FuncData), Meth K C m f ∧ Binds K fd ps [] ∧ FnOk P w K mg base CX k f fd ps sp
structure SrcM (K : PySem.W.Frag) (C : Addr) (m qual : Str) (st : Stmt) (ps : List Str) : Prop where
  ex : ∃ (f : Addr) (fd : FuncData), Meth K C m f ∧ Fun K m qual st f fd ∧ Binds K fd ps []
/-- the making of an instance -/
structure CalC (P : Program) (w : World) (K : PySem.W.Frag) (mg : Str → Option Value) (base : Heap) (CX : CXT) (k : Nat) (x : Str) (C : Addr) (ps : List Str) (sp : Sp) : Prop where
  ex : ∃ (f : Addr) (fd : FuncData), mg x = some (.ref C) ∧ Mk K C f ∧ Binds K fd ps [] ∧ FnOk P w K mg base CX k f fd ps sp
structure SrcC (K : PySem.W.Frag) (mg : Str → Option Value) (x : Str) (C : Addr) (qual : Str) (st : Stmt) (ps : List Str) : Prop where
  ex : ∃ (f : Addr) (fd : FuncData), mg x = some (.ref C) ∧ Mk K C f ∧ Fun K "__init__" qual st f fd ∧ Binds K fd ps []
section
variable {P : Program} {w : World} {K : PySem.W.Frag} {mg : Str → Option Value} {base : Heap}
theorem SrcM.cal {C : Addr} {m qual : Str} {st : Stmt} {N ps : List Str} {k : Nat} {sp : Sp} (F : SrcM K C m qual st ps) (S : FnScope N ps (defScope st)) (len : ∀ vs H Q E, sp vs H Q E → vs.length = ps.length)
    (hbody : ∀ (f : Addr) (cdv : Value) (A : Around) (outer : List Env) (s : Shared) (H : Hp) (vs : List V) (Q : VK) (E : XK), Room k (A.deeper (envOfC qual (defScope st) s.heap.objs.size f cdv)) → sp vs H Q E →
      ∃ t, PSs (cxOf CX0 P w K mg base N qual (defScope st) f cdv A outer s H E).nox (defBody st) t ∧ t { nx := fun _ H' => Q .non H', rt := Q } (start N vs) H) : CalM P w K mg base CX0 (k + 1) C m ps sp := by
  obtain ⟨f, fd, hm, hF, hb⟩ := F.ex
  exact ⟨f, fd, hm, hb, hF.ok S len fun cdv A outer s H vs Q E => hbody f cdv A outer s H vs Q E⟩
theorem SrcC.calX {x : Str} {C : Addr} {qual : Str} {st : Stmt} {N ps : List Str} {k : Nat} {sp : Sp} (F : SrcC K mg x C qual st ps) (S : FnScope N ps (defScope st)) (len : ∀ vs H Q E, sp vs H Q E → vs.length = ps.length)
    (hbody : ∀ (f : Addr) (cdv : Value) (A : Around) (outer : List Env) (s : Shared) (H : Hp) (vs : List V) (Q : VK) (E : XK), Room k (A.deeper (envOfC qual (defScope st) s.heap.objs.size f cdv)) → sp vs H Q E →
      ∃ t, PSs (cxOf (L2.CX P w) P w K mg base N qual (defScope st) f cdv A outer s H E) (defBody st) t ∧ t { nx := fun _ H' => Q .non H', rt := Q } (start N vs) H) : CalC P w K mg base (L2.CX P w) (k + 1) x C ps sp := by
  obtain ⟨f, fd, hx, hm, hF, hb⟩ := F.ex
  exact ⟨f, fd, hx, hm, hb, hF.okX S len fun cdv A outer s H vs Q E => hbody f cdv A outer s H vs Q E⟩
theorem SrcC.cal {x : Str} {C : Addr} {qual : Str} {st : Stmt} {N ps : List Str} {k : Nat} {sp : Sp} (F : SrcC K mg x C qual st ps) (S : FnScope N ps (defScope st)) (len : ∀ vs H Q E, sp vs H Q E → vs.length = ps.length)
    (hbody : ∀ (f : Addr) (cdv : Value) (A : Around) (outer : List Env) (s : Shared) (H : Hp) (vs : List V) (Q : VK) (E : XK), Room k (A.deeper (envOfC qual (defScope st) s.heap.objs.size f cdv)) → sp vs H Q E →
      ∃ t, PSs (cxOf CX0 P w K mg base N qual (defScope st) f cdv A outer s H E).nox (defBody st) t ∧ t { nx := fun _ H' => Q .non H', rt := Q } (start N vs) H) : CalC P w K mg base CX0 (k + 1) x C ps sp := by
  obtain ⟨f, fd, hx, hm, hF, hb⟩ := F.ex
  exact ⟨f, fd, hx, hm, hb, hF.ok S len fun cdv A outer s H vs Q E => hbody f cdv A outer s H vs Q E⟩
end
section
variable {X : Cx} {CX : CXT} {k : Nat} {ps : List Str} {sp : Sp} {E : XK} {x m : Str} {p pos apos : Pos} {e o : Expr} {es : List Expr} {t : TA} {ta : TE} {C : Addr}
theorem pe_calM {pl : Sem Bool} (M : CalM X.prog X.w X.K X.mg X.base CX k C m ps sp) (c : Cls X.K C) (hr : Room k X.A) (hx : Passes CX X E) (he : PE X o ta) (ha : PA X (e :: es) t)
    (hst : starEach (e :: es) X.env = (false, eval e X.env) :: starEach es X.env := by rfl) (hpl : (backTo pos (starEach es X.env)).any (·.1) = false := by rfl)
    (ht : eval (.Call (.Attribute o m apos) (e :: es) [] pos) X.env = (do
      let ov ← eval o X.env
      standAt apos.atName
      let (f, first) ← holding [ov] (getMethod ov m pl)
      callWith pos f first (backTo pos (starEach (e :: es) X.env)) (backToKw pos (keywordEach [] X.env))) := by rfl) :
    PE X (.Call (.Attribute o m apos) (e :: es) [] pos) (tMeth C m sp [] E ta t) := by
  obtain ⟨f, fd, hm, hb, F⟩ := M.ex
  exact pe_meth he c hm F hr hb .nil hx ha hst hpl ht
theorem pe_mkC (M : CalC X.prog X.w X.K X.mg X.base CX k x C ps sp) (hr : Room (k + 1) X.A) (hg : Gl X x) (hx : Passes CX X E)
    (ha : PA X (e :: es) t) (hdb : (x == ("__debug__" : Str)) = false := by decide) (he : starEach (e :: es) X.env = (false, eval e X.env) :: starEach es X.env := by rfl) (hpl : (backTo pos (starEach es X.env)).any (·.1) = false := by rfl) :
    PE X (.Call (.Name x p) (e :: es) [] pos) (tMake C sp [] E t) := by
  obtain ⟨f, fd, hm, hM, hb, F⟩ := M.ex
  exact pe_make hM F hr hg hm hb .nil hx ha hdb he hpl
theorem k_fld {K : PySem.W.Frag} (hK : X.K = K) {f : Str} (he : PE X e ta) (hb : attributeBase e f X.env (eval e X.env) = eval e X.env) : PE X (.Attribute e f pos) (tFld K ta f) := by subst hK; exact pe_fld he hb
end
section
variable {K : PySem.W.Frag} {σ : L2.St} {H H' : Hp} {ta tb te tx tl to : TE} {x y z v : V} {d d' : PyData} {ds : List PyData} {C a dx : Addr} {fs : List (Str × V)} {f m : Str}
theorem ed_fld (h : Ev ta σ H (.ref a)) (hi : H a = some (.ins C dx fs)) (hc : Cls K C) (hn : NoAttr K C f) (hl : fs.lookup f = some v) (hv : Im H v d) : EvD (tFld K ta f) σ H d := fun H1 e Q q =>
  h H1 e _ fun H2 e2 => ⟨a, C, dx, fs, v, rfl, (e.trans e2) _ _ hi, hc, hn, hl, q v H2 e2 (hv.mono (e.trans e2))⟩
/-- a method of an instance, its answer a datum -/
def SpS {α : Type} (S : α → Addr → Hp → Prop) (R : α → List PyData → PyData → Prop) : Sp := fun vs H Q _ => ∃ (x : α) (a : Addr) (ws : List V) (ds : List PyData) (d : PyData), vs = .ref a :: ws ∧ S x a H ∧ Ims H ws ds ∧ R x ds d ∧ ∀ v H', Ex H H' → Im H' v d → Q v H'
theorem ed_meth {α : Type} {S : α → Addr → Hp → Prop} {R : α → List PyData → PyData → Prop} {E : XK} {ta : TE} {tar : TA} {x : α} (ho : Ev ta σ H (.ref a)) (hi : H a = some (.ins C dx fs)) (hl : fs.lookup m = none) (hS : S x a H) (hm : ∀ H1, Ex H H1 → S x a H → S x a H1) (hd : EvDs tar σ H ds) (hR : R x ds d) :
    EvD (tMeth C m (SpS S R) [] E ta tar) σ H d := fun H1 e Q q => ho H1 e _ fun H2 e2 => ⟨a, dx, fs, rfl, (e.trans e2) _ _ hi, hl, hd H2 (e.trans e2) _ fun vs H3 e3 iv => ⟨x, a, vs, ds, d, by rw [List.append_nil], hm H3 ((e.trans e2).trans e3) hS, iv, hR, fun v H4 e4 i4 => q v H4 ((e2.trans e3).trans e4) i4⟩⟩
/-- x in xs, flat values -/
theorem ed_inV {neg : Bool} {ds : List PyData} {xs : List V} (ha : EvD ta σ H d) (hv : ∀ H1 v, Im H1 v d → v = x) (hf : flatV x = true) (hb : EvD tb σ H (.tuple ds)) (hx : ∀ H1 vs, Ims H1 vs ds → vs = xs) (hfs : xs.all flatV = true) : EvD (tOp (rIn K neg) ta tb) σ H (.bool (if neg then !inV x xs else inV x xs)) :=
  ed_op ha hb fun v y H1 e hv1 hy Q q => by
    obtain ⟨p, ys, rfl, h1, h2⟩ := hy.t
    have e1 := hv H1 v hv1
    have e2 := hx H1 ys h2
    subst e1 e2
    exact ⟨p, ys, rfl, .inr (SqT.of h1), hf, hfs, q _ H1 (Ex.refl H1) (.bl _)⟩
/-- == of scalars -/
theorem ed_eqV (ha : EvD ta σ H d) (hb : EvD tb σ H d') (hx : ∀ H1 v, Im H1 v d → v = x) (hy : ∀ H1 v, Im H1 v d' → v = y) (hs : scal x y = true) : EvD (tOp rEq ta tb) σ H (.bool (decide (x = y))) :=
  ed_op ha hb fun v u H1 e hv hu Q q => by
    have e1 := hx H1 v hv
    have e2 := hy H1 u hu
    subst e1 e2
    exact ⟨hs, q _ H1 (Ex.refl H1) (.bl _)⟩
/-- a comprehension whose items are drawn: all new ones are still and hold PD -/
theorem lc_drawn {wi : TI} {j : Nat} {vs : List Nat} {tp c : Addr} {C : List PyData → Hp → Prop} {Q : VK} {PD : PyData → Prop} (T : Tape tp c H) (hk : Run wi σ H [tp, c] C) (hC : ∀ src H2, C src H2 → src.length ≤ 1000 ∧ Go tp c H H2) (hst : ∀ d, PD d → still d = true)
    (hb : ∀ (src : List PyData) (i : Nat) (d : PyData) (x : V) (H2 H1 : Hp), C src H2 → src[i]? = some d → Go tp c H H1 → Im H1 x d → ∀ Q : VK, (∀ v d' H3, Go tp c H1 H3 → PD d' → Im H3 v d' → Q v H3) → te ((wipe σ vs).set j (some x)) H1 Q) (hw : ∀ x, wipe ((wipe σ vs).set j (some x)) vs = wipe σ vs)
    (k : ∀ p xs ds src H2 H', C src H2 → Go tp c H H' → H p = none → (∀ d ∈ ds, PD d) → ds.length = src.length → H' p = some (.lst xs) → Ims H' xs ds → Q (.ref p) H') : tLc wi (gName j) tYes te vs σ H Q := by
  refine hk _ fun J H2 G Y src hc W hG hY Dl hD => ?_
  obtain ⟨hsz, g2⟩ := hC src H2 hc
  have T2 := g2.2
  refine lc_it W (fun i H' => Go tp c H2 H' ∧ ∃ acc ds, acc.length = i ∧ H' Dl = some (.lst acc) ∧ Ims H' acc ds ∧ ds.length = i ∧ ∀ d ∈ ds, PD d)
    ⟨(Go.refl T2).mut T2 hD, [], [], rfl, upd_same, .nil, rfl, fun d hd => by cases hd⟩ (fun i H' _ p => hG H' p.1.1) (fun i x H3 H4 hi p y => ?_) fun H' p => ?_
  · obtain ⟨g, acc, ds, q1, q2, q3, q4, q5⟩ := p
    obtain ⟨e34, d, hd, im⟩ := hY i H3 x H4 g.1 y
    have g4 : Go tp c H2 H4 := g.ex e34
    refine ⟨hw x, ?_⟩
    show te ((wipe σ vs).set j (some x)) H4 _
    refine hb src i d x H2 H4 hc hd (g2.trans g4) im _ fun v d' H5 g5 hp iv => ?_
    have D5 : H5 Dl = some (.lst acc) := g5.at (T2.notin hD) (e34 _ _ q2)
    have hstd : stills ds = true := by
      clear q3 q4
      induction ds with
      | nil => rfl
      | cons a l ih =>
        show (still a && stills l) = true
        rw [hst a (q5 a (List.mem_cons_self ..)), ih fun d hd => q5 d (List.mem_cons_of_mem _ hd)]
        rfl
    refine ⟨acc, D5, sz_lt (by omega), (g4.trans g5).mut T2 hD, acc ++ [v], ds ++ [d'], by rw [List.length_append, q1]; rfl, upd_same, ?_, by rw [List.length_append, q4]; rfl, fun d hd => ?_⟩
    · exact Ims.append (((q3.mono e34).tx g5.1.2 hstd).tx (tx_lst D5) hstd) (.cons (iv.tx (tx_lst D5) (hst d' hp)) .nil)
    · rcases List.mem_append.mp hd with hd | hd
      · exact q5 d hd
      · have : d = d' := by simpa using hd
        rw [this]; exact hp
  · obtain ⟨g, acc, ds, q1, q2, q3, q4, q5⟩ := p
    refine k Dl acc ds src H2 H' hc (g2.trans g) ?_ q5 q4 q2 q3
    cases c0 : H Dl with
    | none => rfl
    | some o =>
      exfalso
      by_cases hm : Dl ∈ [tp, c]
      · exact T2.notin hD hm
      · rw [g2.at hm c0] at hD
        cases hD
end
end Pd
set_option Elab.async false
set_option linter.all false
set_option maxRecDepth 100000
set_option maxHeartbeats 4000000
/-! tuple * int for every number from 0 to 1000 -/
namespace L2
open PySem PySem.Spec PyProof.Rows
theorem tuple_mul0 (l : Addr) (items : Array Value) (n : Nat) (dd : Option Addr) (sl : Array (Option Value)) (u : Tok) (c1 : (items.isEmpty || (0 : Int) == 1) = false) :
    Meets (Builtin.«tuple.__mul__» ⟨[.ref l, .int 0 u], []⟩) (fun _ R s => s.heap.get? l = some { cls := .type "tuple", dict := dd, data := .seq items n, slots := sl } ∧
      R (.ok (.ret (Value.ref s.heap.objs.size))) { s with heap := s.heap.push { cls := Value.type "tuple", data := Data.seq #[] }, toks := s.toks }) :=
  .of_wp fun prog w A R s h => by
    obtain ⟨hp, g, d, tk, os⟩ := s
    obtain ⟨hl, h⟩ := h
    have f1 := AutoSeq1.idx_int
    wp_walk using wpAny_loadPart' hl
    repeat (first
      | (refine wpAny_ite_false (by decide) ?_; wp_walk using wpAny_loadPart' hl)
      | (refine wpAny_ite_false (decide_eq_false (by rw [c1]; exact Bool.false_ne_true)) ?_; wp_walk using wpAny_loadPart' hl)
      | (refine wpAny_ite_true (by simp) ?_; wp_walk using wpAny_loadPart' hl))
    all_goals exact ⟨_, rfl, h⟩
theorem tuple_mul1 (l : Addr) (items : Array Value) (n : Nat) (dd : Option Addr) (sl : Array (Option Value)) (u : Tok) :
    Meets (Builtin.«tuple.__mul__» ⟨[.ref l, .int 1 u], []⟩) (fun _ R s => s.heap.get? l = some { cls := .type "tuple", dict := dd, data := .seq items n, slots := sl } ∧
      R (.ok (.ret (Value.ref l))) s) :=
  .of_wp fun prog w A R s h => by
    obtain ⟨hp, g, d, tk, os⟩ := s
    obtain ⟨hl, h⟩ := h
    have f1 := AutoSeq1.idx_int
    wp_walk using wpAny_loadPart' hl
    repeat (first
      | (refine wpAny_ite_false (by decide) ?_; wp_walk using wpAny_loadPart' hl)
      | (refine wpAny_ite_true (by simp) ?_; wp_walk using wpAny_loadPart' hl))
    all_goals exact ⟨_, rfl, h⟩
def rRepA (K : PySem.W.Frag) : R2 := fun x y H Q => ∃ l k xs, x = .ref l ∧ y = .int k ∧ SqT K H l xs ∧ xs ≠ [] ∧ 0 ≤ k ∧ k ≤ 1000 ∧ xs.length ≤ 1000 ∧ (k = 1 → Q (.ref l) H) ∧ ∀ p, H p = none → Q (.ref p) (upd H p (.tup (List.replicate k.toNat xs).flatten))
section
variable {X : Cx}
theorem op_repA : OpR X (binaryOp .Mult) (rRepA X.K) := by
  intro pins s σ H x y v u Q I rx ry h
  obtain ⟨l, k, xs, rfl, rfl, hT, hne, h0, h2, hz, q1, q⟩ := h
  by_cases h1 : 2 ≤ k
  · exact op_repT pins s σ H (.ref l) (.int k) v u Q I rx ry ⟨l, k, xs, rfl, rfl, hT, hne, h1, h2, hz, q⟩
  cases rx
  obtain ⟨t, rfl⟩ := ry
  obtain ⟨its, r, ⟨⟨cls, dd, data, sl⟩, ho, hc, n, hd⟩, hs⟩ := I.tuple hT
  simp only at hc hd
  subst hc hd
  have hle : its.length = xs.length := r.length.symm
  have hn : its ≠ [] := fun e => hne (by
    rw [e] at hle
    exact List.eq_nil_of_length_eq_zero hle.symm)
  have hi : its.toArray.isEmpty = false := by
    cases its with
    | nil => exact absurd rfl hn
    | cons a b => rfl
  rcases (by omega : k = 0 ∨ k = 1) with rfl | rfl
  · have c1 : (its.toArray.isEmpty || (0 : Int) == 1) = false := by rw [hi]; rfl
    refine wpAny_binaryOp_repeat_ref (T := "tuple") (U := "int") (by decide) ⟨_, ho, rfl⟩ (fun s' => typeIs_int s' 0 t) noFill_tuple_mul F.fills_int_mul F.slot_int_rmul repeat_tuple F.slot_int_index.lookup
      (call_meets F.slot_int_rmul (typeIs_int s 0 t) F.entry_int_rmul (F.args_int_rmul_2 _ _) (int_rmul_tuple 0 t l its.toArray n dd sl)
        ⟨ho, rfl, ⟨_, ho, rfl⟩, call_meets F.slot_tuple_mul ⟨_, ho, rfl⟩ F.entry_tuple_mul (F.args_tuple_mul_2 _ _) (tuple_mul0 l its.toArray n dd sl t c1) ⟨ho, ?_⟩⟩)
    refine ⟨.ref s.heap.objs.size, _, I.laid (t' := s.toks) (o := .tup []) (fun b ob q => Heap.get?_push_of_some _ q) (Nat.le_refl _) ?_, rfl, q _ (I.hok.fresh (Nat.le_refl _))⟩
    exact ⟨Nat.zero_le _, _, .nil, IsTup.new _ _⟩
  · refine wpAny_binaryOp_repeat_ref (T := "tuple") (U := "int") (by decide) ⟨_, ho, rfl⟩ (fun s' => typeIs_int s' 1 t) noFill_tuple_mul F.fills_int_mul F.slot_int_rmul repeat_tuple F.slot_int_index.lookup
      (call_meets F.slot_int_rmul (typeIs_int s 1 t) F.entry_int_rmul (F.args_int_rmul_2 _ _) (int_rmul_tuple 1 t l its.toArray n dd sl)
        ⟨ho, rfl, ⟨_, ho, rfl⟩, call_meets F.slot_tuple_mul ⟨_, ho, rfl⟩ F.entry_tuple_mul (F.args_tuple_mul_2 _ _) (tuple_mul1 l its.toArray n dd sl t) ⟨ho, ?_⟩⟩)
    exact ⟨.ref l, _, I, rfl, q1 rfl⟩
end
end L2
namespace Pd
open PySem PySem.Spec PyProof.Rows L2 Evl
theorem Ims.rep1 {H : Hp} {v : V} {d : PyData} (h : Im H v d) : ∀ n : Nat, Ims H (List.replicate n [v]).flatten (List.replicate n d)
  | 0 => .nil
  | n + 1 => by
    rw [List.replicate_succ, List.replicate_succ, List.flatten_cons]
    exact .cons h (Ims.rep1 h n)
theorem k_repA {X : Cx} {K : PySem.W.Frag} (hK : X.K = K) : OpR X (binaryOp .Mult) (rRepA K) := by subst hK; exact op_repA
theorem ed_repT {K : PySem.W.Frag} {σ : L2.St} {H : Hp} {ta tb : TE} {n : Nat} {d : PyData} (ha : EvD ta σ H (.tuple [d])) (hb : EvD tb σ H (.int (n : Nat))) (hn : n ≤ 1000) : EvD (tOp (rRepA K) ta tb) σ H (.tuple (List.replicate n d)) :=
  ed_op ha hb fun x y H1 e hx hy Q q => by
    obtain ⟨p, xs, rfl, h1, h2⟩ := hx.t
    cases hy.i
    obtain ⟨v, rfl, iv⟩ := h2.one
    refine ⟨p, (n : Nat), [v], rfl, rfl, SqT.of h1, List.cons_ne_nil _ _, by omega, by omega, by show 1 ≤ 1000; omega, fun z => ?_, fun r hr => ?_⟩
    · cases (by omega : n = 1)
      exact q _ H1 (Ex.refl H1) (.tup h1 h2)
    · refine q _ _ (Ex.new hr) (.tup upd_same ?_)
      rw [Int.toNat_natCast]
      exact Ims.rep1 (iv.mono (Ex.new hr)) n
end Pd
set_option Elab.async false
set_option linter.all false
set_option maxRecDepth 100000
set_option maxHeartbeats 4000000
/-! tuple * int, from 2 on, up to 100000 items -/
namespace L2
open PySem PySem.Spec PyProof.Rows
def rRepW (K : PySem.W.Frag) : R2 := fun x y H Q => ∃ l k xs, x = .ref l ∧ y = .int k ∧ SqT K H l xs ∧ xs ≠ [] ∧ 2 ≤ k ∧ k.toNat * xs.length ≤ 100000 ∧ ∀ p, H p = none → Q (.ref p) (upd H p (.tup (List.replicate k.toNat xs).flatten))
section
variable {X : Cx}
theorem op_repW : OpR X (binaryOp .Mult) (rRepW X.K) := by
  intro pins s σ H x y v u Q I rx ry h
  obtain ⟨l, k, xs, rfl, rfl, hT, hne, h1, hz, q⟩ := h
  cases rx
  obtain ⟨t, rfl⟩ := ry
  obtain ⟨its, r, ⟨⟨cls, dd, data, sl⟩, ho, hc, n, hd⟩, hs⟩ := I.tuple hT
  simp only at hc hd
  subst hc hd
  have hle : its.length = xs.length := r.length.symm
  have hn : its ≠ [] := fun e => hne (by
    rw [e] at hle
    exact List.eq_nil_of_length_eq_zero hle.symm)
  have hp : 1 ≤ xs.length := by
    cases xs with
    | nil => exact absurd rfl hne
    | cons a b => simp
  have hi : its.toArray.isEmpty = false := by
    cases its with
    | nil => exact absurd rfl hn
    | cons a b => rfl
  have hsz0 : its.toArray.size = xs.length := by rw [List.size_toArray, hle]
  have hk : k.toNat ≤ 100000 := Nat.le_trans (by have := Nat.mul_le_mul_left k.toNat hp; omega) hz
  have hkn : k = (k.toNat : Int) := by omega
  have hm : ((its.toArray.size : Nat) : Int) * k ≤ 100000 := by
    rw [hsz0, hkn, ← Int.natCast_mul, Nat.mul_comm]
    exact Int.ofNat_le.mpr hz
  have flen : (List.replicate k.toNat its).flatten.length ≤ sizeLine := by
    rw [PyProof.Rows.lm_len_rep_flat, hle, sizeLine_eq]
    omega
  have c0 : (decide (k < -(2 ^ 63)) || decide (k ≥ 2 ^ 63)) = false := by
    rw [decide_eq_false (by omega), decide_eq_false (by omega)] <;> rfl
  have c1 : (its.toArray.isEmpty || k == 1) = false := by
    rw [hi, Bool.false_or]
    exact beq_eq_false_iff_ne.mpr (by omega)
  have c2 : (decide (k ≤ 0) || its.toArray.isEmpty) = false := by
    rw [hi, Bool.or_false]
    exact decide_eq_false (by omega)
  have c4 : Builtin.Tuple.tupleTooMany (((its.toArray.size : Nat) : Int) * k) = false := by
    unfold Builtin.Tuple.tupleTooMany
    rw [sizeLine_eq]
    exact decide_eq_false (by omega)
  refine wpAny_binaryOp_repeat_ref (T := "tuple") (U := "int") (by decide) ⟨_, ho, rfl⟩ (fun s' => typeIs_int s' k t) noFill_tuple_mul F.fills_int_mul F.slot_int_rmul repeat_tuple F.slot_int_index.lookup
    (call_meets F.slot_int_rmul (typeIs_int s k t) F.entry_int_rmul (F.args_int_rmul_2 _ _) (int_rmul_tuple k t l its.toArray n dd sl)
      ⟨ho, rfl, ⟨_, ho, rfl⟩, call_meets F.slot_tuple_mul ⟨_, ho, rfl⟩ F.entry_tuple_mul (F.args_tuple_mul_2 _ _) (tuple_mulW l its.toArray n dd sl k t c0 c1 c2 (by omega) c4 (by rw [size_rep, List.size_toArray]; exact flen)) ⟨ho, ?_⟩⟩)
  rw [size_rep]
  refine ⟨.ref s.heap.objs.size, _, I.laid (t' := s.toks) (o := .tup (List.replicate k.toNat xs).flatten) (fun b ob q => Heap.get?_push_of_some _ q) (Nat.le_refl _) ?_, rfl, q _ (I.hok.fresh (Nat.le_refl _))⟩
  exact ⟨by rw [PyProof.Rows.lm_len_rep_flat, sizeLine_eq]; omega, _, r.rep k.toNat, IsTup.new _ _⟩
end
end L2
namespace Pd
open PySem PySem.Spec PyProof.Rows L2 Evl
theorem k_repW {X : Cx} {K : PySem.W.Frag} (hK : X.K = K) : OpR X (binaryOp .Mult) (rRepW K) := by subst hK; exact op_repW
theorem ed_repW {K : PySem.W.Frag} {σ : L2.St} {H : Hp} {ta tb : TE} {n : Nat} {d : PyData} (ha : EvD ta σ H (.tuple [d])) (hb : EvD tb σ H (.int (n : Nat))) (h2 : 2 ≤ n) (hn : n ≤ 100000) : EvD (tOp (rRepW K) ta tb) σ H (.tuple (List.replicate n d)) :=
  ed_op ha hb fun x y H1 e hx hy Q q => by
    obtain ⟨p, xs, rfl, h1, h2'⟩ := hx.t
    cases hy.i
    obtain ⟨v, rfl, iv⟩ := h2'.one
    refine ⟨p, (n : Nat), [v], rfl, rfl, SqT.of h1, List.cons_ne_nil _ _, by omega, by rw [Int.toNat_natCast]; show n * 1 ≤ _; omega, fun r hr => ?_⟩
    refine q _ _ (Ex.new hr) (.tup upd_same ?_)
    rw [Int.toNat_natCast]
    exact Ims.rep1 (iv.mono (Ex.new hr)) n
/-- xs.pop() -/
theorem k_pop0 {X : Cx} {K : PySem.W.Frag} (hK : X.K = K) {o : Expr} {to : TE} {apos cpos : Pos} (ho : PE X o to)
    (hbase : attributeBase o "pop" X.env (eval o X.env) = eval o X.env := by rfl) (hline : (apos.endLine == cpos.line) = true := by rfl) : PE X (.Call (.Attribute o "pop" apos) [] [] cpos) (tBM0 K "list" rPop to) := by subst hK; exact pe_bm0 PySem.F.plainAttrs_list PySem.F.slot_list_pop PySem.F.type_list_pop mt_pop ho hbase hline
end Pd
set_option Elab.async false
set_option linter.all false
set_option maxRecDepth 100000
set_option maxHeartbeats 2000000
/-! Eg: what expressions come to that draw from the tape: still data of which P holds. -/
namespace Pd
open PySem PyProof.Rows L2 Evl
def EvG (t c : Addr) (te : TE) (σ : L2.St) (H : Hp) (P : PyData → Prop) : Prop := ∀ H1, Go t c H H1 → ∀ Q : VK, (∀ v d H2, Go t c H1 H2 → still d = true → P d → Im H2 v d → Q v H2) → te σ H1 Q
def EvGs (t c : Addr) (ta : TA) (σ : L2.St) (H : Hp) (P : List PyData → Prop) : Prop := ∀ H1, Go t c H H1 → ∀ Q : List V → Hp → Prop, (∀ vs ds H2, Go t c H1 H2 → stills ds = true → P ds → Ims H2 vs ds → Q vs H2) → ta σ H1 Q
def EvGT (t c : Addr) (tt : TT) (σ : L2.St) (H : Hp) (P : Bool → Prop) : Prop := ∀ H1, Go t c H H1 → ∀ Q : Bool → Hp → Prop, (∀ b H2, Go t c H1 H2 → P b → Q b H2) → tt σ H1 Q
section
variable {K : PySem.W.Frag} {σ : L2.St} {H H' : Hp} {ta tb te tx tl to : TE} {u u2 : TT} {x y z v : V} {d d' e' : PyData} {ds es : List PyData} {t c : Addr} {P P' P2 : PyData → Prop} {PB PB' : Bool → Prop} {D : Ends} {tu tz tw : TS}
theorem stills_cons {d : PyData} {ds : List PyData} : stills (d :: ds) = (still d && stills ds) := rfl
theorem stills_mem : ∀ {ds : List PyData}, stills ds = true → ∀ d ∈ ds, still d = true
  | [], _, d, h => by cases h
  | a :: l, s, d, h => by
    have s' := Bool.and_eq_true_iff.mp (show (still a && stills l) = true from s)
    rcases List.mem_cons.mp h with rfl | h
    · exact s'.1
    · exact stills_mem s'.2 d h
theorem stills_ofm : ∀ {ds : List PyData}, (∀ d ∈ ds, still d = true) → stills ds = true
  | [], _ => rfl
  | a :: l, h => by
    show (still a && stills l) = true
    rw [h a (List.mem_cons_self ..), stills_ofm fun d hd => h d (List.mem_cons_of_mem _ hd)]
    rfl
theorem stills_app {ds es : List PyData} (h : stills ds = true) (k : stills es = true) : stills (ds ++ es) = true := stills_ofm fun d hd => by
  rcases List.mem_append.mp hd with h1 | h1
  · exact stills_mem h d h1
  · exact stills_mem k d h1
theorem EvG.mono (g : Go t c H H') (h : EvG t c te σ H P) : EvG t c te σ H' P := fun H1 g1 Q q => h H1 (g.trans g1) Q q
theorem EvG.w (h : EvG t c te σ H P) (hp : ∀ d, P d → P' d) : EvG t c te σ H P' := fun H1 g1 Q q => h H1 g1 Q fun v d H2 g2 s p iv => q v d H2 g2 s (hp d p) iv
theorem EvGT.w (h : EvGT t c u σ H PB) (hp : ∀ b, PB b → PB' b) : EvGT t c u σ H PB' := fun H1 g1 Q q => h H1 g1 Q fun b H2 g2 p => q b H2 g2 (hp b p)
theorem eg_d (h : ∀ H1, Go t c H H1 → EvD te σ H1 d) (hs : still d = true) (hp : P d) : EvG t c te σ H P := fun H1 g Q q =>
  h H1 g H1 (Ex.refl H1) Q fun v H2 e iv => q v d H2 (Go.of g.2 e) hs hp iv
theorem eg_var {i : Nat} (h : σ[i]? = some (some v)) (iv : Im H v d) (hs : still d = true) (hp : P d) : EvG t c (tVar i) σ H P := eg_d (fun H1 g => ed_var h (g.im hs iv)) hs hp
theorem eg_c (h : ∀ H1, Im H1 v d) (hs : still d = true) (hp : P d) : EvG t c (tC v) σ H P := eg_d (fun H1 g => ed_c (h H1)) hs hp
theorem eg_i (i : Int) (hp : P (.int i)) : EvG t c (tC (.int i)) σ H P := eg_c (fun _ => .int i) rfl hp
theorem eg_s (i : Str) (hp : P (.str i)) : EvG t c (tC (.str i)) σ H P := eg_c (fun _ => .str i) rfl hp
theorem eg_b (i : Bool) (hp : P (.bool i)) : EvG t c (tC (.bl i)) σ H P := eg_c (fun _ => .bl i) rfl hp
theorem eg_n (hp : P .none) : EvG t c (tC .non) σ H P := eg_c (fun _ => .non) rfl hp
theorem egs0 {PP : List PyData → Prop} (hp : PP []) : EvGs t c tNil σ H PP := fun H1 g Q q => q _ _ H1 (Go.refl g.2) rfl hp .nil
theorem egs1 {PP : List PyData → Prop} {tr : TA} (h : EvG t c te σ H P) (hr : ∀ d, P d → EvGs t c tr σ H fun ds => PP (d :: ds)) : EvGs t c (tCons te tr) σ H PP := fun H1 g Q q =>
  h H1 g _ fun v d H2 g2 s p iv => hr d p H2 (g.trans g2) _ fun vs ds H3 g3 s3 p3 ivs => q _ _ H3 (g2.trans g3) (by rw [stills_cons, s, s3]; rfl) p3 (.cons (g3.im s iv) ivs)
theorem EvGs.w {ta : TA} {PP PP' : List PyData → Prop} (h : EvGs t c ta σ H PP) (hp : ∀ d, PP d → PP' d) : EvGs t c ta σ H PP' := fun H1 g1 Q q => h H1 g1 Q fun v d H2 g2 s p iv => q v d H2 g2 s (hp d p) iv
theorem eg_tup {ta : TA} (h : EvGs t c ta σ H fun ds => ds.length ≤ 100000 ∧ P (.tuple ds)) : EvG t c (tTup ta) σ H P := fun H1 g Q q =>
  h H1 g _ fun vs ds H2 g2 s ⟨hl, p⟩ ivs => ⟨sz_of (by rw [ivs.length]; exact hl), fun a ha => q _ (.tuple ds) _ (g2.ex (Ex.new ha)) (show still (.tuple ds) = true from s) p (.tup upd_same (ivs.mono (Ex.new ha)))⟩
/-- a drawn number -/
theorem eg_draw {it : Nat} {m : Nat} {E : XK} (ht : σ[it]? = some (some (.ref t))) (hm : ∀ H1, Go t c H H1 → EvD tb σ H1 (.int (m : Nat))) (h1 : 1 ≤ m) (h2 : m ≤ 1000) (hp : ∀ r : Nat, r < m → P (.int (r : Nat))) :
    EvG t c (tCall sp_draw [] E (tCons (tVar it) (tCons tb tNil))) σ H P := fun H1 g Q q => drawn ht g.2 (hm H1 g) h1 h2 fun r hr H2 g2 => q _ _ H2 g2 rfl (hp r hr) (.int _)
/-- one of a written list of still data is picked -/
theorem eg_pick {it : Nat} {ta : TA} {E : XK} (ht : σ[it]? = some (some (.ref t))) (h : EvGs t c ta σ H fun ds => ds ≠ [] ∧ ds.length ≤ 1000 ∧ ∀ d ∈ ds, P d) :
    EvG t c (tCall sp_pick [] E (tCons (tVar it) (tCons (tLst ta) tNil))) σ H P := fun H1 g Q q => by
  refine callA (consA (var_run ht (consA (lstA ?_))))
  refine h H1 g _ fun vs ds H2 g2 s ⟨hn, hl, hp⟩ iv => ⟨sz_of (by rw [iv.length]; omega), fun p hpn => ?_⟩
  have TP := g2.2.ex (Ex.new (o := .lst vs) hpn)
  refine ⟨t, c, p, vs, rfl, TP, g2.2.notin hpn, upd_same, fun z => ?_, by rw [iv.length]; omega, fun i x hx H' g3 => ?_⟩
  · subst z
    cases iv
    exact hn rfl
  · obtain ⟨d, hd, im⟩ := (iv.mono (Ex.new (o := .lst vs) hpn)).get hx
    have hm := List.mem_of_getElem? hd
    exact q x d H' ((g2.ex (Ex.new (o := .lst vs) hpn)).trans g3) (stills_mem s d hm) (hp d hm) (g3.im (stills_mem s d hm) im)
/-- one of a list at p -/
theorem eg_pickAt {it : Nat} {p : Addr} {xs : List V} {E : XK} (ht : σ[it]? = some (some (.ref t))) (hp : ∀ H1, Go t c H H1 → Ev tb σ H1 (.ref p)) (hn : p ∉ [t, c]) (hx : H p = some (.lst xs)) (iv : Ims H xs ds) (hs : stills ds = true) (h1 : ds ≠ []) (h2 : ds.length ≤ 1000) (hP : ∀ d ∈ ds, P d) :
    EvG t c (tCall sp_pick [] E (tCons (tVar it) (tCons tb tNil))) σ H P := fun H1 g Q q =>
  picked ht g.2 (hp H1 g) hn (g.at hn hx) (fun z => by subst z; cases iv; exact h1 rfl) (by rw [iv.length]; exact h2) fun i x hx H2 g2 => by
    obtain ⟨d, hd, im⟩ := iv.get hx
    have hm := List.mem_of_getElem? hd
    exact q x d H2 g2 (stills_mem hs d hm) (hP d hm) ((g.trans g2).im (stills_mem hs d hm) im)
/-- a def that draws -/
def SpG (D : List PyData → (PyData → Prop) → Prop) : Sp := fun vs H Q _ => ∃ (t c : Addr) (ws : List V) (ds : List PyData) (P : PyData → Prop), vs = .ref t :: ws ∧ Tape t c H ∧ stills ds = true ∧ Ims H ws ds ∧ D ds P ∧ ∀ v d H', Go t c H H' → still d = true → P d → Im H' v d → Q v H'
theorem eg_call {it : Nat} {ta : TA} {E : XK} {DD : List PyData → (PyData → Prop) → Prop} (ht : σ[it]? = some (some (.ref t))) (h : EvGs t c ta σ H fun ds => DD ds P) : EvG t c (tCall (SpG DD) [] E (tCons (tVar it) ta)) σ H P := fun H1 g Q q => by
  refine callA (consA (var_run ht ?_))
  refine h H1 g _ fun vs ds H2 g2 s p ivs => ⟨t, c, vs, ds, P, by rw [List.append_nil], g2.2, s, ivs, p, fun v d H3 g3 s3 p3 iv => q v d H3 (g2.trans g3) s3 p3 iv⟩
theorem SpG.len {DD : List PyData → (PyData → Prop) → Prop} {n : Nat} (h : ∀ ds P, DD ds P → ds.length + 1 = n) : ∀ vs H Q E, SpG DD vs H Q E → vs.length = n := fun vs H Q E ⟨t, c, ws, ds, P, e, _, _, iv, hd, _⟩ => by
  rw [e, List.length_cons, iv.length]; exact h ds P hd
/-- operators -/
theorem eg_catA {PA PB : List PyData → Prop} (ha : EvG t c ta σ H fun d => ∃ ds, d = .tuple ds ∧ PA ds) (hb : EvG t c tb σ H fun d => ∃ ds, d = .tuple ds ∧ PB ds) (hp : ∀ ds es, PA ds → PB es → ds.length + es.length ≤ 100000 ∧ P (.tuple (ds ++ es))) :
    EvG t c (tOp (rCatA K) ta tb) σ H P := fun H1 g Q q =>
  ha H1 g _ fun x d H2 g2 s2 ⟨ds, ed, pa⟩ ix => hb H2 (g.trans g2) _ fun y d' H3 g3 s3 ⟨es, ed', pb⟩ iy => by
    subst ed; subst ed'
    obtain ⟨p, xs, rfl, h1, h2⟩ := (g3.im s2 ix).t
    obtain ⟨p', xs', rfl, h1', h2'⟩ := iy.t
    obtain ⟨hz, pp⟩ := hp ds es pa pb
    have st : still (.tuple (ds ++ es)) = true := stills_app s2 s3
    refine ⟨p, p', xs, xs', rfl, rfl, SqT.of h1, SqT.of h1', sz_of (by rw [h2.length, h2'.length]; exact hz), fun z => ?_, fun _ z => ?_, fun _ _ r hr => ?_⟩
    · subst z; cases h2; exact q _ _ H3 (g2.trans g3) st pp (.tup h1' h2')
    · subst z; cases h2'; rw [List.append_nil] at pp st; exact q _ _ H3 (g2.trans g3) st pp (.tup h1 h2)
    · exact q _ _ _ ((g2.trans g3).ex (Ex.new hr)) st pp (.tup upd_same ((h2.append h2').mono (Ex.new hr)))
theorem eg_I0 {gg : Int → Int → Int} {PA PB : Int → Prop} (ha : EvG t c ta σ H fun d => ∃ i, d = .int i ∧ PA i) (hb : EvG t c tb σ H fun d => ∃ i, d = .int i ∧ PB i) (hp : ∀ i j, PA i → PB j → P (.int (gg i j))) :
    EvG t c (tOp (rI0 fun i j => .int (gg i j)) ta tb) σ H P := fun H1 g Q q =>
  ha H1 g _ fun x d H2 g2 s2 ⟨i, ed, pa⟩ ix => hb H2 (g.trans g2) _ fun y d' H3 g3 s3 ⟨j, ed', pb⟩ iy => by
    subst ed; subst ed'
    exact ⟨i, j, ix.i, iy.i, q _ _ H3 (g2.trans g3) rfl (hp i j pa pb) (.int _)⟩
theorem eg_B0 {gg : Int → Int → Bool} {PA PB : Int → Prop} (ha : EvG t c ta σ H fun d => ∃ i, d = .int i ∧ PA i) (hb : EvG t c tb σ H fun d => ∃ i, d = .int i ∧ PB i) (hp : ∀ i j, PA i → PB j → P (.bool (gg i j))) :
    EvG t c (tOp (rI0 fun i j => .bl (gg i j)) ta tb) σ H P := fun H1 g Q q =>
  ha H1 g _ fun x d H2 g2 s2 ⟨i, ed, pa⟩ ix => hb H2 (g.trans g2) _ fun y d' H3 g3 s3 ⟨j, ed', pb⟩ iy => by
    subst ed; subst ed'
    exact ⟨i, j, ix.i, iy.i, q _ _ H3 (g2.trans g3) rfl (hp i j pa pb) (.bl _)⟩
theorem eg_eqI {PA PB : Int → Prop} (ha : EvG t c ta σ H fun d => ∃ i, d = .int i ∧ PA i) (hb : EvG t c tb σ H fun d => ∃ i, d = .int i ∧ PB i) (hp : ∀ i j, PA i → PB j → P (.bool (decide (i = j)))) :
    EvG t c (tOp rEq ta tb) σ H P := fun H1 g Q q =>
  ha H1 g _ fun x d H2 g2 s2 ⟨i, ed, pa⟩ ix => hb H2 (g.trans g2) _ fun y d' H3 g3 s3 ⟨j, ed', pb⟩ iy => by
    subst ed; subst ed'
    rw [ix.i, iy.i]
    refine ⟨rfl, ?_⟩
    have h := q _ _ H3 (g2.trans g3) rfl (hp i j pa pb) (.bl (decide (i = j)))
    have e2 : decide (V.int i = V.int j) = decide (i = j) := by by_cases c : i = j <;> simp [c]
    rw [e2]; exact h
theorem eg_if (h : EvGT t c u σ H PB) (h1 : PB true → EvG t c ta σ H P) (h2 : PB false → EvG t c tb σ H P) : EvG t c (tIf u ta tb) σ H P := fun H1 g Q q => h H1 g _ fun b H2 g2 p => by
  cases b with
  | true =>
    show ta σ H2 Q
    exact h1 p H2 (g.trans g2) Q fun v d H3 g3 => q v d H3 (g2.trans g3)
  | false =>
    show tb σ H2 Q
    exact h2 p H2 (g.trans g2) Q fun v d H3 g3 => q v d H3 (g2.trans g3)
/-- tests -/
theorem egt_test (h : EvG t c te σ H fun d => ∃ b, d = .bool b ∧ PB b) : EvGT t c (tTest te) σ H PB := fun H1 g Q q => h H1 g _ fun v d H2 g2 s ⟨b, ed, p⟩ iv => by
  subst ed
  exact ⟨b, iv.b, q b H2 g2 p⟩
theorem egt_B (h : EvG t c te σ H fun d => ∃ b, d = .bool b ∧ PB b) : EvGT t c (tB te) σ H PB := fun H1 g Q q => h H1 g _ fun v d H2 g2 s ⟨b, ed, p⟩ iv => by
  subst ed
  exact ⟨b, iv.b, q b H2 g2 p⟩
theorem egt_d {b : Bool} (h : ∀ H1, Go t c H H1 → EvT u σ H1 b) (hp : PB b) : EvGT t c u σ H PB := fun H1 g Q q => h H1 g H1 (Ex.refl H1) Q fun H2 e => q b H2 (Go.of g.2 e) hp
theorem egt_and {PA PC : Bool → Prop} (h1 : EvGT t c u σ H PA) (h2 : PA true → EvGT t c u2 σ H PB) (hf : PA false → PC false) (ht : ∀ b, PA true → PB b → PC b) : EvGT t c (tAnd u u2) σ H PC := fun H1 g Q q => h1 H1 g _ fun b H2 g2 p => by
  cases b with
  | false =>
    show Q false H2
    exact q false H2 g2 (hf p)
  | true =>
    show u2 σ H2 Q
    exact h2 p H2 (g.trans g2) Q fun b H3 g3 p3 => q b H3 (g2.trans g3) (ht b p p3)
theorem egt_or {PA PC : Bool → Prop} (h1 : EvGT t c u σ H PA) (h2 : PA false → EvGT t c u2 σ H PB) (ht : PA true → PC true) (hf : ∀ b, PA false → PB b → PC b) : EvGT t c (tOr u u2) σ H PC := fun H1 g Q q => h1 H1 g _ fun b H2 g2 p => by
  cases b with
  | true =>
    show Q true H2
    exact q true H2 g2 (ht p)
  | false =>
    show u2 σ H2 Q
    exact h2 p H2 (g.trans g2) Q fun b H3 g3 p3 => q b H3 (g2.trans g3) (hf b p p3)
theorem egt_not (h1 : EvGT t c u σ H PB) : EvGT t c (tNot u) σ H (fun b => PB (!b)) := fun H1 g _ q => h1 H1 g _ fun b H2 g2 p => q (!b) H2 g2 (by show PB (!(!b)); rw [Bool.not_not]; exact p)
/-- statements -/
theorem q_asgG {i : Nat} (T : Tape t c H) (h : EvG t c te σ H P) (k : ∀ v d H1, Go t c H H1 → still d = true → P d → Im H1 v d → tz D (σ.set i (some v)) H1) : tSeq (tAsg te (gName i)) tz D σ H := h H (Go.refl T) _ fun v d H1 g s p iv => k v d H1 g s p iv
theorem s_asgG {i : Nat} (T : Tape t c H) (h : EvG t c te σ H P) (k : ∀ v d H1, Go t c H H1 → still d = true → P d → Im H1 v d → D.nx (σ.set i (some v)) H1) : tAsg te (gName i) D σ H := h H (Go.refl T) _ fun v d H1 g s p iv => k v d H1 g s p iv
theorem s_retG (T : Tape t c H) (h : EvG t c te σ H P) (k : ∀ v d H1, Go t c H H1 → still d = true → P d → Im H1 v d → D.rt v H1) : tRet te D σ H := h H (Go.refl T) _ fun v d H1 g s p iv => k v d H1 g s p iv
theorem q_whenG (T : Tape t c H) (h : EvGT t c u σ H PB) (h1 : PB true → ∀ H1, Go t c H H1 → tu { D with nx := tz D } σ H1) (h2 : PB false → ∀ H1, Go t c H H1 → tz D σ H1) : tSeq (tIfS u tu tNext) tz D σ H := h H (Go.refl T) _ fun b H1 g p => by
  cases b with
  | true =>
    show tu _ σ H1
    exact h1 p H1 g
  | false =>
    show tz D σ H1
    exact h2 p H1 g
theorem s_ifG (T : Tape t c H) (h : EvGT t c u σ H PB) (h1 : PB true → ∀ H1, Go t c H H1 → tu D σ H1) (h2 : PB false → ∀ H1, Go t c H H1 → tw D σ H1) : tIfS u tu tw D σ H := h H (Go.refl T) _ fun b H1 g p => by
  cases b with
  | true =>
    show tu _ σ H1
    exact h1 p H1 g
  | false =>
    show tw D σ H1
    exact h2 p H1 g
theorem q_ifG (T : Tape t c H) (h : EvGT t c u σ H PB) (h1 : PB true → ∀ H1, Go t c H H1 → tu { D with nx := tz D } σ H1) (h2 : PB false → ∀ H1, Go t c H H1 → tw { D with nx := tz D } σ H1) : tSeq (tIfS u tu tw) tz D σ H := s_ifG (D := { D with nx := tz D }) T h h1 h2
/-- found.append(e), found a list of its own -/
theorem s_appG {l : Addr} {xs : List V} (T : Tape t c H) (hl : H l = some (.lst xs)) (hn : l ∉ [t, c]) (ha : Ev ta σ H (.ref l)) (h : EvG t c te σ H P) (hz : xs.length < 100000) (k : ∀ v d H1, Go t c H H1 → still d = true → P d → H1 l = some (.lst xs) → Im (L2.upd H1 l (.lst (xs ++ [v]))) v d → D.nx σ (L2.upd H1 l (.lst (xs ++ [v])))) :
    tDrop (tBM K "list" rAppend ta (tCons te tNil)) D σ H := ha H (Ex.refl H) _ fun H1 e1 =>
  ⟨Or.inl ⟨rfl, xs, sq_of (e1 l _ hl)⟩, h H1 (Go.of T e1) _ fun v d H2 g2 s p iv => by
    have h2 := g2.at hn (e1 l _ hl)
    exact ⟨l, xs, v, rfl, rfl, h2, sz_lt hz, k v d H2 ((Go.of T e1).trans g2) s p h2 (iv.tx (tx_lst h2) s)⟩⟩
end
end Pd
set_option Elab.async false
set_option linter.all false
set_option maxRecDepth 100000
set_option maxHeartbeats 2000000
/-! Zst: zip(a text of plain signs, a tuple). -/
namespace Pd
open PySem PySem.Spec PyProof.Rows L2 Evl
open AutoSeq1 (wpAny_loadPart')
abbrev zsH1 (h : Heap) (x : Str) (t : Tok) : Heap := h.push { cls := .type "str_ascii_iterator", data := .fields #[.str x t, .int 0 0] }
abbrev zsH2 (h : Heap) (x : Str) (t : Tok) (l2 : Addr) : Heap := (zsH1 h x t).push { cls := .type "tuple_iterator", data := .fields #[.ref l2, .int 0 0] }
abbrev zsH3 (h : Heap) (x : Str) (t : Tok) (l2 : Addr) : Heap := (zsH2 h x t l2).push { cls := .type "tuple", data := .seq #[.ref h.objs.size, .ref (zsH1 h x t).objs.size] }
abbrev zsH4 (h : Heap) (x : Str) (t : Tok) (l2 : Addr) : Heap := (zsH3 h x t l2).push { cls := .type "tuple", data := .seq #[.none, .none] }
abbrev zsH5 (h : Heap) (x : Str) (t : Tok) (l2 : Addr) : Heap := (zsH4 h x t l2).push { cls := .type "zip", data := .fields #[.none, .bool false, .bool false, .ref (zsH2 h x t l2).objs.size, .ref (zsH3 h x t l2).objs.size] }
theorem meets_zipS_new (x : Str) (t : Tok) (l2 : Addr) (ys : Array Value) (ha : x.cps.all (· < 128) = true) :
    Meets (Builtin.«zip.__new__» ⟨[.type "zip", .str x t, .ref l2], []⟩) (fun _ R s => s.heap.IsTuple l2 ys ∧
      R (.ok (.ret (.ref (zsH4 s.heap x t l2).objs.size))) { s with heap := zsH5 s.heap x t l2 }) :=
  .of_wp fun prog w A R s h => by
    obtain ⟨hp, g, d, tk, os⟩ := s; obtain ⟨hl2, h⟩ := h
    have hsub := sub_zip
    have hL2 : Heap.IsTuple (Shared.heap ⟨hp.push { cls := .type "str_ascii_iterator", data := .fields #[.str x t, .int 0 0] }, g, d, tk, os⟩) l2 ys := Heap.IsTuple.push hl2 _
    wp_walk using wpAny_pyIter_ascii ha, wpAny_pyIter_tuple hL2
    exact ⟨_, rfl, h⟩
section
variable {prog : Program} {w : World} {A : Around} {E : Value → Shared → Prop} {s : Shared}
theorem call_zipS {x : Str} {t : Tok} {l2 : Addr} {ys : Array Value} {Q : Value → Shared → Prop} (ha : x.cps.all (· < 128) = true) (hl2 : s.heap.IsTuple l2 ys)
    (h : ∀ h', IsZip h' (s.heap.objs.size + 4) (s.heap.objs.size + 2) (s.heap.objs.size + 3) .none → IsTupOf2 h' (s.heap.objs.size + 2) (.ref s.heap.objs.size) (.ref (s.heap.objs.size + 1)) →
      IsTupOf2 h' (s.heap.objs.size + 3) .none .none → h'.IsStrIter s.heap.objs.size "str_ascii_iterator" x t 0 → h'.IsTupleIter (s.heap.objs.size + 1) l2 0 → h'.objs.size = s.heap.objs.size + 5 →
      (∀ c o, s.heap.get? c = some o → h'.get? c = some o) → Q (.ref (s.heap.objs.size + 4)) { s with heap := h' }) :
    wpAny (model prog w) A (call (.type "zip") [.str x t, .ref l2]) Q E s := by
  refine callType_new F.called_zip (by decide) (F.typeCall_zip_2 _ _) (F.newCall_zip_2 _ _) (fun obj => F.args_object_init_3 obj _ _) F.entry_zip_new
    (meets_zipS_new x t l2 ys ha) ⟨hl2, ?_⟩
  have z1 : (zsH1 s.heap x t).objs.size = s.heap.objs.size + 1 := Heap.size_push ..
  have z2 : (zsH2 s.heap x t l2).objs.size = s.heap.objs.size + 2 := by rw [Heap.size_push, z1]
  have z3 : (zsH3 s.heap x t l2).objs.size = s.heap.objs.size + 3 := by rw [Heap.size_push, z2]
  have z4 : (zsH4 s.heap x t l2).objs.size = s.heap.objs.size + 4 := by rw [Heap.size_push, z3]
  have z5 : (zsH5 s.heap x t l2).objs.size = s.heap.objs.size + 5 := by rw [Heap.size_push, z4]
  have g5 : (zsH5 s.heap x t l2).get? (zsH4 s.heap x t l2).objs.size = some _ := Heap.get?_push_size _ rfl
  have g4 : (zsH5 s.heap x t l2).get? (zsH3 s.heap x t l2).objs.size = some _ := Heap.get?_push_of_some _ (Heap.get?_push_size _ rfl)
  have g3 : (zsH5 s.heap x t l2).get? (zsH2 s.heap x t l2).objs.size = some _ := Heap.get?_push_of_some _ (Heap.get?_push_of_some _ (Heap.get?_push_size _ rfl))
  have g2 : (zsH5 s.heap x t l2).get? (zsH1 s.heap x t).objs.size = some _ := Heap.get?_push_of_some _ (Heap.get?_push_of_some _ (Heap.get?_push_of_some _ (Heap.get?_push_size _ rfl)))
  have g1 : (zsH5 s.heap x t l2).get? s.heap.objs.size = some _ := Heap.get?_push_of_some _ (Heap.get?_push_of_some _ (Heap.get?_push_of_some _ (Heap.get?_push_of_some _ (Heap.get?_push_size _ rfl))))
  show _ ∧ _
  rw [z2, z3, z4] at g5
  rw [z1, z2] at g3
  rw [z3] at g4
  rw [z1] at g2
  rw [z4]
  exact ⟨⟨_, g5, rfl⟩, h _ g5 g3 g4 ⟨_, g1, rfl, rfl⟩ ⟨_, g2, rfl, rfl⟩ z5 fun c o x =>
    Heap.get?_push_of_some _ (Heap.get?_push_of_some _ (Heap.get?_push_of_some _ (Heap.get?_push_of_some _ (Heap.get?_push_of_some _ x))))⟩
end
/-- the text and the tuple at b, sign by item, in new pairs -/
def Izs (K : PySem.W.Frag) (x : Str) (b : Addr) : It :=
  ⟨fun i H => ∃ (ys : List V) (y : V) (c : Nat), SqT K H b ys ∧ x.cps[i]? = some c ∧ ys[i]? = some y,
    fun i H v H' => ∃ T c y, v = .ref T ∧ H T = none ∧ H' = upd H T (.tup [.str ⟨#[c]⟩, y]) ∧ x.cps[i]? = some c ∧ ∀ ys, SqT K H b ys → ys[i]? = some y,
    fun i H => ∃ ys : List V, SqT K H b ys ∧ i ≤ x.cps.size ∧ i ≤ ys.length ∧ (i = x.cps.size ∨ i = ys.length)⟩
theorem turn_zipS {P : Program} {w : World} {K : PySem.W.Frag} {elts : List Expr} {kk : Nat} {tpos : Pos} (x : Str) (t : Tok) (b : Addr) {z TI TO i1 i2 : Addr} (D : ZipSep2 z TI TO i1 i2 [i1] [i2, b]) :
    Turn P w K (.Tuple elts kk tpos) (Izs K x b) [z, TI, TO, i1, i2] z (fun i h => IsZip h z TI TO .none ∧ IsTupOf2 h TI (.ref i1) (.ref i2) ∧ (∃ p q, IsTupOf2 h TO p q) ∧ h.IsStrIter i1 "str_ascii_iterator" x t i ∧ h.IsTupleIter i2 b i) where
  mem := by simp
  obj := fun i h st c hc => by
    obtain ⟨hz, hTI, ⟨p, q, hTO⟩, ⟨o1, e1, _, d1⟩, ⟨o2, e2, _, d2⟩⟩ := st
    have e' : c = z ∨ c = TI ∨ c = TO ∨ c = i1 ∨ c = i2 := by simpa using hc
    rcases e' with q | q | q | q | q
    · rw [q]; exact ⟨_, hz, fun v q => nomatch q⟩
    · rw [q]; exact ⟨_, hTI, fun v q => nomatch q⟩
    · rw [q]; exact ⟨_, hTO, fun v q => nomatch q⟩
    · rw [q]; exact ⟨o1, e1, fun v q => by rw [d1] at q; cases q⟩
    · rw [q]; exact ⟨o2, e2, fun v q => by rw [d2] at q; cases q⟩
  keep := fun i h h' st k => by
    obtain ⟨hz, hTI, ⟨p, q, hTO⟩, ⟨o1, e1, r1⟩, h2⟩ := st
    exact ⟨k z (by simp) _ hz, k TI (by simp) _ hTI, ⟨p, q, k TO (by simp) _ hTO⟩, ⟨o1, k i1 (by simp) _ e1, r1⟩, h2.at fun o q => k i2 (by simp) o q⟩
  item := by
    intro X hP hw hK hc i pins s σ H E I hf st hg
    subst hP hw hK
    obtain ⟨hz, hTI, ⟨p0, q0, hTO⟩, h1, h2⟩ := st
    obtain ⟨ys, y, c, hqy, hx, hy⟩ := hg
    obtain ⟨its2, rv2, p2, _⟩ := I.tuple hqy
    obtain ⟨u2, hu2, ru2⟩ := rv2.get hy
    have hzl : z < s.heap.objs.size := Heap.lt_size hz
    have hbi : b ≠ i2 := fun zz => by
      obtain ⟨o1, g1, c1, _⟩ := p2
      obtain ⟨o2, g2, c2, _⟩ := h2
      rw [zz, g2] at g1
      cases g1
      rw [c2] at c1
      exact absurd (Value.type.inj c1) (by decide)
    have l1 : i < x.cps.size := (Array.getElem?_eq_some_iff.mp hx).1
    have l2 : i < its2.toArray.size := by
      have := (List.getElem?_eq_some_iff.mp hu2).1
      simpa using this
    refine wpAny_pyNext_zipD2_item D (Draws.strAscii (show X.A.in1.handled = none from I.ok.hd hc) i1 x t) (Draws.tuple (show X.A.in1.handled = none from I.ok.hd hc) i2 b hbi its2.toArray) hz hTI hTO h1 ⟨h2, p2⟩ l1 l2 fun x1 x2 h' tk hx1 hx2 z' TO' h1' h2' hT hsz hk => ?_
    obtain ⟨c', u', hc', rfl⟩ := hx1
    have ec : c' = c := by rw [hx] at hc'; exact (Option.some.inj hc').symm
    subst ec
    have ex2 : x2 = u2 := by
      have : its2.toArray[i]? = some u2 := by simpa using hu2
      rw [this] at hx2
      exact (Option.some.inj hx2).symm
    subst ex2
    refine ⟨_, rfl, wpAny_letOwnedTupleGo_zip (s := { s with heap := h', toks := tk }) z' fun h'' z'' sb => ?_⟩
    have hT2 : h''.get? s.heap.objs.size = some { cls := .type "tuple", data := .seq #[.str ⟨#[c']⟩ u', x2] } := (sb.2 _ (Nat.ne_of_gt hzl)).trans hT
    have new : ObjOk X.prog X.w (upd H s.heap.objs.size (.tup [.str ⟨#[c']⟩, y])) h'' s.heap.objs.size (.tup [.str ⟨#[c']⟩, y]) :=
      ⟨by show 2 ≤ sizeLine; decide, [.str ⟨#[c']⟩ u', x2], .cons ⟨_, rfl⟩ (.cons ru2 .nil), ⟨_, hT2, rfl, _, rfl⟩⟩
    have I1 : Inv X pins σ (upd H s.heap.objs.size (.tup [.str ⟨#[c']⟩, y])) { s with heap := h'', toks := tk } :=
      I.turnedNew (ch := [z, TI, TO, i1, i2]) (fun c o hb q => (sb.2 c (fun q' => hb (by simp [q']))).trans (hk c o (fun q' => hb (by simp [q'])) (fun q' => hb (by simp [q'])) (fun q' => hb (by simp [q'])) (fun q' => hb (by simp [q'])) q)) hf (Nat.le_refl _) new
    refine ⟨.ref s.heap.objs.size, _, I1, rfl, ⟨_, c', y, rfl, I.hok.fresh (Nat.le_refl _), rfl, hx, fun l hl => by rw [I.tuple_inj hl hqy]; exact hy⟩, ⟨z'', ?_, ⟨.str ⟨#[c']⟩ u', x2, ?_⟩, ?_, ?_⟩, fun c hcm => ?_⟩
    · exact (sb.2 _ D.TIz).trans (hk _ _ D.TIz D.TITO D.TIi1 D.TIi2 hTI)
    · exact (sb.2 _ D.TOz).trans TO'
    · obtain ⟨o1, e1, r1⟩ := h1'
      exact ⟨o1, (sb.2 _ (fun q => D.zi1 q.symm)).trans e1, r1⟩
    · exact h2'.1.at fun o q => (sb.2 _ (fun q => D.zi2 q.symm)).trans q
    · have hlt : c < s.heap.objs.size := by
        have e' : c = z ∨ c = TI ∨ c = TO ∨ c = i1 ∨ c = i2 := by simpa using hcm
        rcases e' with q | q | q | q | q
        · rw [q]; exact hzl
        · rw [q]; exact Heap.lt_size hTI
        · rw [q]; exact Heap.lt_size hTO
        · rw [q]; obtain ⟨_, e1, _⟩ := h1; exact Heap.lt_size e1
        · rw [q]; obtain ⟨_, e2, _⟩ := h2; exact Heap.lt_size e2
      rw [upd_ne (Nat.ne_of_lt hlt)]
      exact (hf c hcm).1
  done := by
    intro X hP hw hK hc i pins s σ H E I hf st hg
    subst hP hw hK
    obtain ⟨hz, hTI, ⟨p0, q0, hTO⟩, h1, h2⟩ := st
    obtain ⟨ys, hqy, hi1, hi2, hend⟩ := hg
    obtain ⟨its2, rv2, p2, _⟩ := I.tuple hqy
    have l2 : its2.toArray.size = ys.length := by rw [List.size_toArray, ← rv2.length]
    have hbi : b ≠ i2 := fun zz => by
      obtain ⟨o1, g1, c1, _⟩ := p2
      obtain ⟨o2, g2, c2, _⟩ := h2
      rw [zz, g2] at g1
      cases g1
      rw [c2] at c1
      exact absurd (Value.type.inj c1) (by decide)
    exact wpAny_pyNext_zipD2_end D (Draws.strAscii (show X.A.in1.handled = none from I.ok.hd hc) i1 x t) (Draws.tuple (show X.A.in1.handled = none from I.ok.hd hc) i2 b hbi its2.toArray) hz hTI hTO h1 ⟨h2, p2⟩ hi1 (by rw [l2]; exact hi2) (by rw [l2]; exact hend) fun h' tk hk => ⟨rfl, I.turnedL (t' := tk) (ch := [z, TI, TO, i1, i2]) (fun c o hb q =>
      hk c o (fun q' => hb (by simp [q'])) (fun q' => hb (by simp [q'])) (fun q' => hb (by simp [q'])) (fun q' => hb (by simp [q'])) q) hf⟩
  self := fun A i s Q E st h => wpAny_pyIter_zip st.1 h
def iZipS (K : PySem.W.Frag) (ta : TA) : TI := fun σ H R => ta σ H fun vs H1 => ∃ x b ys, vs = [.str x, .ref b] ∧ x.cps.all (· < 128) = true ∧ SqT K H1 b ys ∧ R (Izs K x b) H1
theorem pi_zipS {X : Cx} {e e2 : Expr} {ta : TA} {p pos tpos : Pos} {elts : List Expr} {kk : Nat} (hg : Gl X "zip") (hm : X.mg "zip" = none) (ha : PA X [e, e2] ta)
    (hs : starEach [e, e2] X.env = (false, eval e X.env) :: starEach [e2] X.env := by rfl) (hpl : (backTo pos (starEach [e2] X.env)).any (·.1) = false := by rfl) :
    PI X (.Tuple elts kk tpos) (.Call (.Name "zip" p) [e, e2] [] pos) (iZipS X.K ta) := by
  refine ⟨fun pins s σ H R I h => ?_⟩
  refine Call_ (ld_blt I hg hm PyProof.Rows.boot_zip (PyProof.Rows.callWith_type1 (thn (ha.run pos pins s σ H _ I h) fun us s1 ⟨vs, H1, I1, r1, q1⟩ => ?_) hs hpl))
  obtain ⟨x, b, ys, ex, hasc, hqy, q⟩ := q1
  subst ex
  cases r1 with
  | cons r rr =>
    cases rr with
    | cons r' rr =>
      cases rr
      obtain ⟨t, rfl⟩ := r
      cases r'
      have fresh5 : ∀ c, c ∈ [s1.heap.objs.size + 4, s1.heap.objs.size + 2, s1.heap.objs.size + 3, s1.heap.objs.size, s1.heap.objs.size + 1] → FpOk X pins H1 c := fun c hcm => by
        have e' : c = s1.heap.objs.size + 4 ∨ c = s1.heap.objs.size + 2 ∨ c = s1.heap.objs.size + 3 ∨ c = s1.heap.objs.size ∨ c = s1.heap.objs.size + 1 := by simpa using hcm
        have hle : s1.heap.objs.size ≤ c := by
          rcases e' with z | z | z | z | z
          · rw [z]; exact Nat.le_add_right _ _
          · rw [z]; exact Nat.le_add_right _ _
          · rw [z]; exact Nat.le_add_right _ _
          · rw [z]; exact Nat.le_refl _
          · rw [z]; exact Nat.le_add_right _ _
        exact I1.fpOk hle (I1.hok.fresh hle)
      obtain ⟨its2, rv2, p2, _⟩ := I1.tuple hqy
      obtain ⟨o2, ho2, _⟩ := id p2
      have hb : b < s1.heap.objs.size := Heap.lt_size ho2
      refine call_zipS hasc (show s1.heap.IsTuple b its2.toArray from p2) fun h' hz hTI hTO h1 h2 hsz hk => wpAny_pyIter_zip hz ?_
      have I2 : Inv X pins σ H1 { s1 with heap := h' } := I1.kept (t' := s1.toks) hk
      have D : ZipSep2 (s1.heap.objs.size + 4) (s1.heap.objs.size + 2) (s1.heap.objs.size + 3) s1.heap.objs.size (s1.heap.objs.size + 1) [s1.heap.objs.size] [s1.heap.objs.size + 1, b] := by
        have hb4 : ¬ s1.heap.objs.size + 4 = b := Nat.ne_of_gt (Nat.lt_of_lt_of_le hb (Nat.le_add_right _ _))
        have hb3 : ¬ s1.heap.objs.size + 3 = b := Nat.ne_of_gt (Nat.lt_of_lt_of_le hb (Nat.le_add_right _ _))
        have hb0 : ¬ s1.heap.objs.size = b := Nat.ne_of_gt hb
        constructor <;> simp [hb4, hb3, hb0]
      exact ⟨s1.heap.objs.size + 4, [s1.heap.objs.size + 4, s1.heap.objs.size + 2, s1.heap.objs.size + 3, s1.heap.objs.size, s1.heap.objs.size + 1], _, _, H1, rfl, I2, turn_zipS x t b D, ⟨hz, hTI, ⟨_, _, hTO⟩, h1, h2⟩, fresh5, q⟩
theorem k_pi_zipS {X : Cx} {K : PySem.W.Frag} (hK : X.K = K) {e e2 : Expr} {ta : TA} {p pos tpos : Pos} {elts : List Expr} {kk : Nat} (hg : Gl X "zip") (hm : X.mg "zip" = none) (ha : PA X [e, e2] ta)
    (hs : starEach [e, e2] X.env = (false, eval e X.env) :: starEach [e2] X.env := by rfl) (hpl : (backTo pos (starEach [e2] X.env)).any (·.1) = false := by rfl) :
    PI X (.Tuple elts kk tpos) (.Call (.Name "zip" p) [e, e2] [] pos) (iZipS K ta) := by subst hK; exact pi_zipS hg hm ha hs hpl
theorem walk_zipS {K : PySem.W.Frag} {x : Str} {b : Addr} {ys : List V} (hl : x.cps.size = ys.length) : Walk (Izs K x b) ys.length (fun H => SqT K H b ys) (fun i H v H' => ∃ T c y, v = .ref T ∧ H T = none ∧ H' = upd H T (.tup [.str ⟨#[c]⟩, y]) ∧ x.cps[i]? = some c ∧ ys[i]? = some y) :=
  ⟨fun i _ hi q => ⟨ys, ys[i], x.cps[i], q, by simp [hl, hi], by simp [hi]⟩, fun _ q => ⟨ys, q, by omega, Nat.le_refl _, .inr rfl⟩, fun i H v H' _ q y => by
    obtain ⟨T, c, y, e1, e2, e3, e4, e5⟩ := y
    exact ⟨T, c, y, e1, e2, e3, e4, e5 ys q⟩⟩
/-- the pairs of a text's signs and data -/
theorem wk_zipS {K : PySem.W.Frag} {σ : L2.St} {H : Hp} {ta tb : TE} {x : Str} {ds : List PyData} (h1 : EvD ta σ H (.str x)) (h2 : EvD tb σ H (.tuple ds)) (hasc : x.cps.all (· < 128) = true) (hl : x.cps.size = ds.length) : Wk (iZipS K (tCons ta (tCons tb tNil))) σ H (pairs (signs x) ds) := fun H1 e R r =>
  (ea1 h1 (ea1 h2 ea0)) H1 e _ fun vs H2 e2 iv => by
    obtain ⟨v, w, rfl, i1, i2⟩ := iv.two
    cases i1.s
    obtain ⟨p, xs, rfl, g1, g2⟩ := i2.t
    have hlx : x.cps.size = xs.length := by rw [g2.length]; exact hl
    refine ⟨x, p, xs, rfl, hasc, SqT.of g1, r _ H2 (fun H => SqT K H p xs) _ e2 (by
      have : (pairs (signs x) ds).length = xs.length := by unfold pairs signs; rw [List.length_map, List.length_zip, List.length_map, g2.length]; simp; omega
      rw [this]; exact walk_zipS hlx) (fun H3 e3 => SqT.of (e3 _ _ g1)) fun i H3 v H4 e3 yy => ?_⟩
    obtain ⟨T, c, y, rfl, hT, rfl, hc, hy⟩ := yy
    obtain ⟨d2, hd2, im2⟩ := (g2.mono e3).get hy
    refine ⟨Ex.new hT, .tuple [.str ⟨#[c]⟩, d2], ?_, .tup upd_same (.cons (.str _) (.cons (im2.mono (Ex.new hT)) .nil))⟩
    unfold pairs
    rw [List.getElem?_map]
    have hs : (signs x)[i]? = some (.str ⟨#[c]⟩) := by
      unfold signs
      rw [List.getElem?_map]
      have : x.cps.toList[i]? = some c := by simpa using hc
      rw [this]; rfl
    rw [zip_get hs hd2]; rfl
end Pd
set_option Elab.async false
set_option linter.all false
set_option maxRecDepth 100000
set_option maxHeartbeats 2000000
/-! Zlt: zip(a list, a tuple). -/
namespace Pd
open PySem PySem.Spec PyProof.Rows L2 Evl
open AutoSeq1 (wpAny_loadPart')
abbrev zlH1 (h : Heap) (l1 : Addr) : Heap := h.push { cls := .type "list_iterator", data := .fields #[.ref l1, .int 0 0] }
abbrev zlH2 (h : Heap) (l1 : Addr) (l2 : Addr) : Heap := (zlH1 h l1).push { cls := .type "tuple_iterator", data := .fields #[.ref l2, .int 0 0] }
abbrev zlH3 (h : Heap) (l1 : Addr) (l2 : Addr) : Heap := (zlH2 h l1 l2).push { cls := .type "tuple", data := .seq #[.ref h.objs.size, .ref (zlH1 h l1).objs.size] }
abbrev zlH4 (h : Heap) (l1 : Addr) (l2 : Addr) : Heap := (zlH3 h l1 l2).push { cls := .type "tuple", data := .seq #[.none, .none] }
abbrev zlH5 (h : Heap) (l1 : Addr) (l2 : Addr) : Heap := (zlH4 h l1 l2).push { cls := .type "zip", data := .fields #[.none, .bool false, .bool false, .ref (zlH2 h l1 l2).objs.size, .ref (zlH3 h l1 l2).objs.size] }
theorem meets_zipL_new (l1 : Addr) (l2 : Addr) (xs ys : Array Value) :
    Meets (Builtin.«zip.__new__» ⟨[.type "zip", .ref l1, .ref l2], []⟩) (fun _ R s => s.heap.IsList l1 xs ∧ s.heap.IsTuple l2 ys ∧
      R (.ok (.ret (.ref (zlH4 s.heap l1 l2).objs.size))) { s with heap := zlH5 s.heap l1 l2 }) :=
  .of_wp fun prog w A R s h => by
    obtain ⟨hp, g, d, tk, os⟩ := s; obtain ⟨hl1, hl2, h⟩ := h
    have hsub := sub_zip
    have hL2 : Heap.IsTuple (Shared.heap ⟨hp.push { cls := .type "list_iterator", data := .fields #[.ref l1, .int 0 0] }, g, d, tk, os⟩) l2 ys := Heap.IsTuple.push hl2 _
    wp_walk using wpAny_pyIter_list hl1, wpAny_pyIter_tuple hL2
    exact ⟨_, rfl, h⟩
section
variable {prog : Program} {w : World} {A : Around} {E : Value → Shared → Prop} {s : Shared}
theorem call_zipL {l1 : Addr} {l2 : Addr} {xs ys : Array Value} {Q : Value → Shared → Prop} (hl1 : s.heap.IsList l1 xs) (hl2 : s.heap.IsTuple l2 ys)
    (h : ∀ h', IsZip h' (s.heap.objs.size + 4) (s.heap.objs.size + 2) (s.heap.objs.size + 3) .none → IsTupOf2 h' (s.heap.objs.size + 2) (.ref s.heap.objs.size) (.ref (s.heap.objs.size + 1)) →
      IsTupOf2 h' (s.heap.objs.size + 3) .none .none → h'.IsListIter s.heap.objs.size l1 0 → h'.IsTupleIter (s.heap.objs.size + 1) l2 0 → h'.objs.size = s.heap.objs.size + 5 →
      (∀ c o, s.heap.get? c = some o → h'.get? c = some o) → Q (.ref (s.heap.objs.size + 4)) { s with heap := h' }) :
    wpAny (model prog w) A (call (.type "zip") [.ref l1, .ref l2]) Q E s := by
  refine callType_new F.called_zip (by decide) (F.typeCall_zip_2 _ _) (F.newCall_zip_2 _ _) (fun obj => F.args_object_init_3 obj _ _) F.entry_zip_new
    (meets_zipL_new l1 l2 xs ys) ⟨hl1, hl2, ?_⟩
  have z1 : (zlH1 s.heap l1).objs.size = s.heap.objs.size + 1 := Heap.size_push ..
  have z2 : (zlH2 s.heap l1 l2).objs.size = s.heap.objs.size + 2 := by rw [Heap.size_push, z1]
  have z3 : (zlH3 s.heap l1 l2).objs.size = s.heap.objs.size + 3 := by rw [Heap.size_push, z2]
  have z4 : (zlH4 s.heap l1 l2).objs.size = s.heap.objs.size + 4 := by rw [Heap.size_push, z3]
  have z5 : (zlH5 s.heap l1 l2).objs.size = s.heap.objs.size + 5 := by rw [Heap.size_push, z4]
  have g5 : (zlH5 s.heap l1 l2).get? (zlH4 s.heap l1 l2).objs.size = some _ := Heap.get?_push_size _ rfl
  have g4 : (zlH5 s.heap l1 l2).get? (zlH3 s.heap l1 l2).objs.size = some _ := Heap.get?_push_of_some _ (Heap.get?_push_size _ rfl)
  have g3 : (zlH5 s.heap l1 l2).get? (zlH2 s.heap l1 l2).objs.size = some _ := Heap.get?_push_of_some _ (Heap.get?_push_of_some _ (Heap.get?_push_size _ rfl))
  have g2 : (zlH5 s.heap l1 l2).get? (zlH1 s.heap l1).objs.size = some _ := Heap.get?_push_of_some _ (Heap.get?_push_of_some _ (Heap.get?_push_of_some _ (Heap.get?_push_size _ rfl)))
  have g1 : (zlH5 s.heap l1 l2).get? s.heap.objs.size = some _ := Heap.get?_push_of_some _ (Heap.get?_push_of_some _ (Heap.get?_push_of_some _ (Heap.get?_push_of_some _ (Heap.get?_push_size _ rfl))))
  show _ ∧ _
  rw [z2, z3, z4] at g5
  rw [z1, z2] at g3
  rw [z3] at g4
  rw [z1] at g2
  rw [z4]
  exact ⟨⟨_, g5, rfl⟩, h _ g5 g3 g4 ⟨_, g1, rfl, rfl⟩ ⟨_, g2, rfl, rfl⟩ z5 fun c o x =>
    Heap.get?_push_of_some _ (Heap.get?_push_of_some _ (Heap.get?_push_of_some _ (Heap.get?_push_of_some _ (Heap.get?_push_of_some _ x))))⟩
end
/-- the list at a and the tuple at b, item by item, in new pairs -/
def Izl (K : PySem.W.Frag) (a b : Addr) : It :=
  ⟨fun i H => ∃ (xs ys : List V) (x y : V), SqL K H a xs ∧ SqT K H b ys ∧ xs[i]? = some x ∧ ys[i]? = some y,
    fun i H v H' => ∃ T x y, v = .ref T ∧ H T = none ∧ H' = upd H T (.tup [x, y]) ∧ (∀ xs, SqL K H a xs → xs[i]? = some x) ∧ ∀ ys, SqT K H b ys → ys[i]? = some y,
    fun i H => ∃ xs ys : List V, SqL K H a xs ∧ SqT K H b ys ∧ i ≤ xs.length ∧ i ≤ ys.length ∧ (i = xs.length ∨ i = ys.length)⟩
theorem turn_zipL {P : Program} {w : World} {K : PySem.W.Frag} {elts : List Expr} {kk : Nat} {tpos : Pos} {a b z TI TO i1 i2 : Addr} (D : ZipSep2 z TI TO i1 i2 [i1, a] [i2, b]) :
    Turn P w K (.Tuple elts kk tpos) (Izl K a b) [z, TI, TO, i1, i2] z (fun i h => IsZip h z TI TO .none ∧ IsTupOf2 h TI (.ref i1) (.ref i2) ∧ (∃ p q, IsTupOf2 h TO p q) ∧ h.IsListIter i1 a i ∧ h.IsTupleIter i2 b i) where
  mem := by simp
  obj := fun i h st c hc => by
    obtain ⟨hz, hTI, ⟨p, q, hTO⟩, ⟨o1, e1, _, d1⟩, ⟨o2, e2, _, d2⟩⟩ := st
    have e' : c = z ∨ c = TI ∨ c = TO ∨ c = i1 ∨ c = i2 := by simpa using hc
    rcases e' with q | q | q | q | q
    · rw [q]; exact ⟨_, hz, fun v q => nomatch q⟩
    · rw [q]; exact ⟨_, hTI, fun v q => nomatch q⟩
    · rw [q]; exact ⟨_, hTO, fun v q => nomatch q⟩
    · rw [q]; exact ⟨o1, e1, fun v q => by rw [d1] at q; cases q⟩
    · rw [q]; exact ⟨o2, e2, fun v q => by rw [d2] at q; cases q⟩
  keep := fun i h h' st k => by
    obtain ⟨hz, hTI, ⟨p, q, hTO⟩, ⟨o1, e1, r1⟩, h2⟩ := st
    exact ⟨k z (by simp) _ hz, k TI (by simp) _ hTI, ⟨p, q, k TO (by simp) _ hTO⟩, ⟨o1, k i1 (by simp) _ e1, r1⟩, h2.at fun o q => k i2 (by simp) o q⟩
  item := by
    intro X hP hw hK hc i pins s σ H E I hf st hg
    subst hP hw hK
    obtain ⟨hz, hTI, ⟨p0, q0, hTO⟩, h1, h2⟩ := st
    obtain ⟨xs, ys, x, y, hqx, hqy, hx, hy⟩ := hg
    obtain ⟨its, rv, p, _⟩ := I.list hqx
    obtain ⟨its2, rv2, p2, _⟩ := I.tuple hqy
    obtain ⟨u, hu, ru⟩ := rv.get hx
    obtain ⟨u2, hu2, ru2⟩ := rv2.get hy
    have p := p.isList
    have hai : a ≠ i1 := fun zz => by
      obtain ⟨o1, g1, c1, _⟩ := p
      obtain ⟨o2, g2, c2, _⟩ := h1
      rw [zz, g2] at g1
      cases g1
      rw [c2] at c1
      exact absurd (Value.type.inj c1) (by decide)
    have hzl : z < s.heap.objs.size := Heap.lt_size hz
    have hbi : b ≠ i2 := fun zz => by
      obtain ⟨o1, g1, c1, _⟩ := p2
      obtain ⟨o2, g2, c2, _⟩ := h2
      rw [zz, g2] at g1
      cases g1
      rw [c2] at c1
      exact absurd (Value.type.inj c1) (by decide)
    have l1 : i < its.toArray.size := by
      have := (List.getElem?_eq_some_iff.mp hu).1
      simpa using this
    have l2 : i < its2.toArray.size := by
      have := (List.getElem?_eq_some_iff.mp hu2).1
      simpa using this
    refine wpAny_pyNext_zipD2_item D (Draws.list (show X.A.in1.handled = none from I.ok.hd hc) i1 a hai its.toArray) (Draws.tuple (show X.A.in1.handled = none from I.ok.hd hc) i2 b hbi its2.toArray) hz hTI hTO ⟨h1, p⟩ ⟨h2, p2⟩ l1 l2 fun x1 x2 h' tk hx1 hx2 z' TO' h1' h2' hT hsz hk => ?_
    have ex1 : x1 = u := by
      have : its.toArray[i]? = some u := by simpa using hu
      rw [this] at hx1
      exact (Option.some.inj hx1).symm
    subst ex1
    have ex2 : x2 = u2 := by
      have : its2.toArray[i]? = some u2 := by simpa using hu2
      rw [this] at hx2
      exact (Option.some.inj hx2).symm
    subst ex2
    refine ⟨_, rfl, wpAny_letOwnedTupleGo_zip (s := { s with heap := h', toks := tk }) z' fun h'' z'' sb => ?_⟩
    have hT2 : h''.get? s.heap.objs.size = some { cls := .type "tuple", data := .seq #[x1, x2] } := (sb.2 _ (Nat.ne_of_gt hzl)).trans hT
    have new : ObjOk X.prog X.w (upd H s.heap.objs.size (.tup [x, y])) h'' s.heap.objs.size (.tup [x, y]) :=
      ⟨by show 2 ≤ sizeLine; decide, [x1, x2], .cons ru (.cons ru2 .nil), ⟨_, hT2, rfl, _, rfl⟩⟩
    have I1 : Inv X pins σ (upd H s.heap.objs.size (.tup [x, y])) { s with heap := h'', toks := tk } :=
      I.turnedNew (ch := [z, TI, TO, i1, i2]) (fun c o hb q => (sb.2 c (fun q' => hb (by simp [q']))).trans (hk c o (fun q' => hb (by simp [q'])) (fun q' => hb (by simp [q'])) (fun q' => hb (by simp [q'])) (fun q' => hb (by simp [q'])) q)) hf (Nat.le_refl _) new
    refine ⟨.ref s.heap.objs.size, _, I1, rfl, ⟨_, x, y, rfl, I.hok.fresh (Nat.le_refl _), rfl, fun l hl => by rw [I.list_inj hl hqx]; exact hx, fun l hl => by rw [I.tuple_inj hl hqy]; exact hy⟩, ⟨z'', ?_, ⟨x1, x2, ?_⟩, ?_, ?_⟩, fun c hcm => ?_⟩
    · exact (sb.2 _ D.TIz).trans (hk _ _ D.TIz D.TITO D.TIi1 D.TIi2 hTI)
    · exact (sb.2 _ D.TOz).trans TO'
    · obtain ⟨⟨o1, e1, r1⟩, _⟩ := h1'
      exact ⟨o1, (sb.2 _ (fun q => D.zi1 q.symm)).trans e1, r1⟩
    · exact h2'.1.at fun o q => (sb.2 _ (fun q => D.zi2 q.symm)).trans q
    · have hlt : c < s.heap.objs.size := by
        have e' : c = z ∨ c = TI ∨ c = TO ∨ c = i1 ∨ c = i2 := by simpa using hcm
        rcases e' with q | q | q | q | q
        · rw [q]; exact hzl
        · rw [q]; exact Heap.lt_size hTI
        · rw [q]; exact Heap.lt_size hTO
        · rw [q]; obtain ⟨_, e1, _⟩ := h1; exact Heap.lt_size e1
        · rw [q]; obtain ⟨_, e2, _⟩ := h2; exact Heap.lt_size e2
      rw [upd_ne (Nat.ne_of_lt hlt)]
      exact (hf c hcm).1
  done := by
    intro X hP hw hK hc i pins s σ H E I hf st hg
    subst hP hw hK
    obtain ⟨hz, hTI, ⟨p0, q0, hTO⟩, h1, h2⟩ := st
    obtain ⟨xs, ys, hqx, hqy, hi1, hi2, hend⟩ := hg
    obtain ⟨its, rv, p, _⟩ := I.list hqx
    have p := p.isList
    obtain ⟨its2, rv2, p2, _⟩ := I.tuple hqy
    have l1 : its.toArray.size = xs.length := by rw [List.size_toArray, ← rv.length]
    have hai : a ≠ i1 := fun zz => by
      obtain ⟨o1, g1, c1, _⟩ := p
      obtain ⟨o2, g2, c2, _⟩ := h1
      rw [zz, g2] at g1
      cases g1
      rw [c2] at c1
      exact absurd (Value.type.inj c1) (by decide)
    have l2 : its2.toArray.size = ys.length := by rw [List.size_toArray, ← rv2.length]
    have hbi : b ≠ i2 := fun zz => by
      obtain ⟨o1, g1, c1, _⟩ := p2
      obtain ⟨o2, g2, c2, _⟩ := h2
      rw [zz, g2] at g1
      cases g1
      rw [c2] at c1
      exact absurd (Value.type.inj c1) (by decide)
    exact wpAny_pyNext_zipD2_end D (Draws.list (show X.A.in1.handled = none from I.ok.hd hc) i1 a hai its.toArray) (Draws.tuple (show X.A.in1.handled = none from I.ok.hd hc) i2 b hbi its2.toArray) hz hTI hTO ⟨h1, p⟩ ⟨h2, p2⟩ (by rw [l1]; exact hi1) (by rw [l2]; exact hi2) (by rw [l1, l2]; exact hend) fun h' tk hk => ⟨rfl, I.turnedL (t' := tk) (ch := [z, TI, TO, i1, i2]) (fun c o hb q =>
      hk c o (fun q' => hb (by simp [q'])) (fun q' => hb (by simp [q'])) (fun q' => hb (by simp [q'])) (fun q' => hb (by simp [q'])) q) hf⟩
  self := fun A i s Q E st h => wpAny_pyIter_zip st.1 h
def iZipLT (K : PySem.W.Frag) (ta : TA) : TI := fun σ H R => ta σ H fun vs H1 => ∃ a b xs ys, vs = [.ref a, .ref b] ∧ SqL K H1 a xs ∧ SqT K H1 b ys ∧ R (Izl K a b) H1
theorem pi_zipL {X : Cx} {e e2 : Expr} {ta : TA} {p pos tpos : Pos} {elts : List Expr} {kk : Nat} (hg : Gl X "zip") (hm : X.mg "zip" = none) (ha : PA X [e, e2] ta)
    (hs : starEach [e, e2] X.env = (false, eval e X.env) :: starEach [e2] X.env := by rfl) (hpl : (backTo pos (starEach [e2] X.env)).any (·.1) = false := by rfl) :
    PI X (.Tuple elts kk tpos) (.Call (.Name "zip" p) [e, e2] [] pos) (iZipLT X.K ta) := by
  refine ⟨fun pins s σ H R I h => ?_⟩
  refine Call_ (ld_blt I hg hm PyProof.Rows.boot_zip (PyProof.Rows.callWith_type1 (thn (ha.run pos pins s σ H _ I h) fun us s1 ⟨vs, H1, I1, r1, q1⟩ => ?_) hs hpl))
  obtain ⟨a, b, xs, ys, ex, hqx, hqy, q⟩ := q1
  subst ex
  cases r1 with
  | cons r rr =>
    cases rr with
    | cons r' rr =>
      cases rr
      cases r
      cases r'
      have fresh5 : ∀ c, c ∈ [s1.heap.objs.size + 4, s1.heap.objs.size + 2, s1.heap.objs.size + 3, s1.heap.objs.size, s1.heap.objs.size + 1] → FpOk X pins H1 c := fun c hcm => by
        have e' : c = s1.heap.objs.size + 4 ∨ c = s1.heap.objs.size + 2 ∨ c = s1.heap.objs.size + 3 ∨ c = s1.heap.objs.size ∨ c = s1.heap.objs.size + 1 := by simpa using hcm
        have hle : s1.heap.objs.size ≤ c := by
          rcases e' with z | z | z | z | z
          · rw [z]; exact Nat.le_add_right _ _
          · rw [z]; exact Nat.le_add_right _ _
          · rw [z]; exact Nat.le_add_right _ _
          · rw [z]; exact Nat.le_refl _
          · rw [z]; exact Nat.le_add_right _ _
        exact I1.fpOk hle (I1.hok.fresh hle)
      obtain ⟨its, rv, p, _⟩ := I1.list hqx
      have p := p.isList
      obtain ⟨o1, ho1, _⟩ := id p
      have ha : a < s1.heap.objs.size := Heap.lt_size ho1
      obtain ⟨its2, rv2, p2, _⟩ := I1.tuple hqy
      obtain ⟨o2, ho2, _⟩ := id p2
      have hb : b < s1.heap.objs.size := Heap.lt_size ho2
      refine call_zipL p (show s1.heap.IsTuple b its2.toArray from p2) fun h' hz hTI hTO h1 h2 hsz hk => wpAny_pyIter_zip hz ?_
      have I2 : Inv X pins σ H1 { s1 with heap := h' } := I1.kept (t' := s1.toks) hk
      have D : ZipSep2 (s1.heap.objs.size + 4) (s1.heap.objs.size + 2) (s1.heap.objs.size + 3) s1.heap.objs.size (s1.heap.objs.size + 1) [s1.heap.objs.size, a] [s1.heap.objs.size + 1, b] := by
        have ha4 : ¬ s1.heap.objs.size + 4 = a := Nat.ne_of_gt (Nat.lt_of_lt_of_le ha (Nat.le_add_right _ _))
        have ha3 : ¬ s1.heap.objs.size + 3 = a := Nat.ne_of_gt (Nat.lt_of_lt_of_le ha (Nat.le_add_right _ _))
        have ha1 : ¬ s1.heap.objs.size + 1 = a := Nat.ne_of_gt (Nat.lt_of_lt_of_le ha (Nat.le_add_right _ _))
        have hb4 : ¬ s1.heap.objs.size + 4 = b := Nat.ne_of_gt (Nat.lt_of_lt_of_le hb (Nat.le_add_right _ _))
        have hb3 : ¬ s1.heap.objs.size + 3 = b := Nat.ne_of_gt (Nat.lt_of_lt_of_le hb (Nat.le_add_right _ _))
        have hb0 : ¬ s1.heap.objs.size = b := Nat.ne_of_gt hb
        constructor <;> simp [hb4, hb3, hb0, ha4, ha3, ha1]
      exact ⟨s1.heap.objs.size + 4, [s1.heap.objs.size + 4, s1.heap.objs.size + 2, s1.heap.objs.size + 3, s1.heap.objs.size, s1.heap.objs.size + 1], _, _, H1, rfl, I2, turn_zipL D, ⟨hz, hTI, ⟨_, _, hTO⟩, h1, h2⟩, fresh5, q⟩
theorem k_pi_zipL {X : Cx} {K : PySem.W.Frag} (hK : X.K = K) {e e2 : Expr} {ta : TA} {p pos tpos : Pos} {elts : List Expr} {kk : Nat} (hg : Gl X "zip") (hm : X.mg "zip" = none) (ha : PA X [e, e2] ta)
    (hs : starEach [e, e2] X.env = (false, eval e X.env) :: starEach [e2] X.env := by rfl) (hpl : (backTo pos (starEach [e2] X.env)).any (·.1) = false := by rfl) :
    PI X (.Tuple elts kk tpos) (.Call (.Name "zip" p) [e, e2] [] pos) (iZipLT K ta) := by subst hK; exact pi_zipL hg hm ha hs hpl
end Pd
set_option Elab.async false
set_option linter.all false
set_option maxRecDepth 100000
set_option maxHeartbeats 2000000
/-! Kw: calls with keywords; tuples and dicts of the text. -/
namespace Pd
open PySem PySem.Spec PyProof.Rows L2 Evl
/-- a def called with n values and keywords ks, in the parameters' order, its promise kept -/
structure CalK (P : Program) (w : World) (K : PySem.W.Frag) (mg : Str → Option Value) (base : Heap) (CX : CXT) (k : Nat) (x : Str) (ps : List Str) (n : Nat) (ks : List Str) (sp : Sp) : Prop where
  ex : ∃ (f : Addr) (fd : FuncData), mg x = some (.ref f) ∧ PySem.W.keepIn K (.ref f) = true ∧ KBn K fd ps n ks (fun us ws => us ++ ws) (fun vs zs => vs ++ zs) ∧ FnOk P w K mg base CX k f fd ps sp
structure SrcK (K : PySem.W.Frag) (mg : Str → Option Value) (x : Str) (st : Stmt) (ps : List Str) (n : Nat) (ks : List Str) : Prop where
  ex : ∃ (f : Addr) (fd : FuncData), mg x = some (.ref f) ∧ Fun K x x st f fd ∧ KBn K fd ps n ks (fun us ws => us ++ ws) (fun vs zs => vs ++ zs)
section
variable {P : Program} {w : World} {K : PySem.W.Frag} {mg : Str → Option Value} {base : Heap}
theorem SrcK.cal {x : Str} {st : Stmt} {N ps ks : List Str} {k n : Nat} {sp : Sp} (F : SrcK K mg x st ps n ks) (S : FnScope N ps (defScope st)) (len : ∀ vs H Q E, sp vs H Q E → vs.length = ps.length)
    (hbody : ∀ (f : Addr) (cdv : Value) (A : Around) (outer : List Env) (s : Shared) (H : Hp) (vs : List V) (Q : VK) (E : XK), Room k (A.deeper (envOfC x (defScope st) s.heap.objs.size f cdv)) → sp vs H Q E →
      ∃ t, PSs (cxOf CX0 P w K mg base N x (defScope st) f cdv A outer s H E).nox (defBody st) t ∧ t { nx := fun _ H' => Q .non H', rt := Q } (start N vs) H) : CalK P w K mg base CX0 (k + 1) x ps n ks sp := by
  obtain ⟨f, fd, hm, hF, hb⟩ := F.ex
  exact ⟨f, fd, hm, hF.kp, hb, hF.ok S len fun cdv A outer s H vs Q E => hbody f cdv A outer s H vs Q E⟩
theorem SrcK.calX {x : Str} {st : Stmt} {N ps ks : List Str} {k n : Nat} {sp : Sp} (F : SrcK K mg x st ps n ks) (S : FnScope N ps (defScope st)) (len : ∀ vs H Q E, sp vs H Q E → vs.length = ps.length)
    (hbody : ∀ (f : Addr) (cdv : Value) (A : Around) (outer : List Env) (s : Shared) (H : Hp) (vs : List V) (Q : VK) (E : XK), Room k (A.deeper (envOfC x (defScope st) s.heap.objs.size f cdv)) → sp vs H Q E →
      ∃ t, PSs (cxOf (L2.CX P w) P w K mg base N x (defScope st) f cdv A outer s H E) (defBody st) t ∧ t { nx := fun _ H' => Q .non H', rt := Q } (start N vs) H) : CalK P w K mg base (L2.CX P w) (k + 1) x ps n ks sp := by
  obtain ⟨f, fd, hm, hF, hb⟩ := F.ex
  exact ⟨f, fd, hm, hF.kp, hb, hF.okX S len fun cdv A outer s H vs Q E => hbody f cdv A outer s H vs Q E⟩
theorem kbn_of {fd : FuncData} {ps ks : List Str} {n : Nat} (h : ∀ us ws : List Value, us.length = n → ws.length = ks.length → bindArgs fd ⟨us, ks.zip ws⟩ = pure (ps.zip (us ++ ws))) : KBn K fd ps n ks (fun us ws => us ++ ws) (fun vs zs => vs ++ zs) :=
  ⟨fun s us ws _ h1 h2 => .of_eq (h us ws h1 h2), fun r1 r2 => r1.append r2⟩
end
section
variable {X : Cx} {CX : CXT} {k n : Nat} {ps ks : List Str} {sp : Sp} {x : Str} {p pos : Pos} {e : Expr} {es : List Expr} {kws : List Keyword} {t tk : TA}
theorem pe_calK {E : XK} (C : CalK X.prog X.w X.K X.mg X.base CX k x ps n ks sp) (hr : Room k X.A) (hg : Gl X x) (hx : Passes CX X E)
    (ha : PA X (e :: es) t) (hkw : PK X kws tk) (hall : (backToKw pos (keywordEach kws X.env)).all (·.1.isSome) = true := by rfl) (hks : (backToKw pos (keywordEach kws X.env)).filterMap (·.1) = ks := by rfl)
    (hdb : (x == ("__debug__" : Str)) = false := by decide) (he : starEach (e :: es) X.env = (false, eval e X.env) :: starEach es X.env := by rfl)
    (hpl : ((backTo pos (starEach (e :: es) X.env)).any (·.1) || (backToKw pos (keywordEach kws X.env)).any (·.1.isNone)) = false := by rfl) :
    PE X (.Call (.Name x p) (e :: es) kws pos) (tCallN n ks.length sp (fun vs zs => vs ++ zs) E t tk) := by
  obtain ⟨f, fd, hm, hk, hb, F⟩ := C.ex
  exact pe_callN F hr hg hm hk hb hx ha hkw hall hks hdb he hpl
def tCallNS (n m : Nat) (sp : Sp) (E : L2.St → XK) (t tk : TA) : TE := fun σ H Q => t σ H fun vs H1 => tk σ H1 fun zs H2 => vs.length = n ∧ zs.length = m ∧ sp (vs ++ zs) H2 Q (E σ)
theorem pe_calKS {W : WX} (C : CalK X.prog X.w X.K X.mg X.base (L2.CX X.prog X.w) k x ps n ks sp) (hr : Room k X.A) (hg : Gl X x) (tkk : Takes X W)
    (ha : PA X (e :: es) t) (hkw : PK X kws tk) (hall : (backToKw pos (keywordEach kws X.env)).all (·.1.isSome) = true := by rfl) (hks : (backToKw pos (keywordEach kws X.env)).filterMap (·.1) = ks := by rfl)
    (hdb : (x == ("__debug__" : Str)) = false := by decide) (he : starEach (e :: es) X.env = (false, eval e X.env) :: starEach es X.env := by rfl)
    (hpl : ((backTo pos (starEach (e :: es) X.env)).any (·.1) || (backToKw pos (keywordEach kws X.env)).any (·.1.isNone)) = false := by rfl) :
    PE X (.Call (.Name x p) (e :: es) kws pos) (tCallNS n ks.length sp (WE W) t tk) := by
  obtain ⟨f, fd, hm, hk, hb, F⟩ := C.ex
  refine ⟨fun pins s σ H Q I h => ?_⟩
  refine wpAny_Call_Name_kw (ld_glob I hg hm ?_ hdb)
  refine PySem.W.callWith_KW (h₀ := X.base) I.ok.mod.kin hk hall (thn (ha.run pos pins s σ H _ I h) fun us s1 ⟨vs, H1, I1, r, q⟩ => ?_) hpl he
  refine thn (hkw.run pos pins s1 σ H1 _ I1 q) fun ws s2 ⟨zs, H2, I2, rz, l1, l2, q2⟩ => ⟨I2.kIn, ?_⟩
  rw [hks]
  have r2 := hb.rel r rz
  refine wpAny_call (codeAny_mono (F.run X.A X.stack s2 H2 ⟨us, ks.zip ws⟩ (us ++ ws) (vs ++ zs) Q (WE W σ) hr I2.env0 (hb.to s2 us ws I2.kIn (r.length.symm.trans l1) (rz.length.symm.trans l2)) r2 q2) fun r s' hq => ?_)
  cases r with
  | error e => exact passAt tkk σ pins H2 s2 e s' I2 hq
  | ok fl =>
    cases fl with
    | ret u => exact I2.after hq
    | next => exact False.elim hq
    | brk => exact False.elim hq
    | cont => exact False.elim hq
end
section
variable {K : PySem.W.Frag} {σ : L2.St} {H H' : Hp} {ta tb te : TE} {d : PyData} {ds es : List PyData} {t c : Addr} {P : PyData → Prop}
theorem ed_callN {R : List PyData → PyData → Prop} {E : XK} {ta tk : TA} {n m : Nat} (h : EvDs ta σ H ds) (h2 : EvDs tk σ H es) (l1 : ds.length = n) (l2 : es.length = m) (hd : R (ds ++ es) d) : EvD (tCallN n m (SpQ R) (fun vs zs => vs ++ zs) E ta tk) σ H d := fun H1 e Q q =>
  h H1 e _ fun vs H2 e2 i2 => h2 H2 (e.trans e2) _ fun zs H3 e3 i3 => ⟨by rw [i2.length]; exact l1, by rw [i3.length]; exact l2, ds ++ es, d, (i2.mono e3).append i3, hd, fun v H4 e4 i4 => q v H4 ((e2.trans e3).trans e4) i4⟩
/-- x in a tuple of the text, texts all -/
theorem ed_inK {a : Str} {ss : List Str} {p : Addr} (ha : EvD ta σ H (.str a)) (hp : ∀ H1, SqT K H1 p (ss.map V.str)) : EvD (tOp (rIn K false) ta (tC (.ref p))) σ H (.bool (decide (a ∈ ss))) := fun H1 e Q q =>
  ha H1 e _ fun x H2 e2 ix => by
    cases ix.s
    refine ⟨p, _, rfl, .inr (hp H2), rfl, flat_strs ss, ?_⟩
    have h := q _ H2 e2 (.bl (decide (a ∈ ss)))
    show Q (.bl (inV (.str a) (ss.map V.str))) H2
    rw [inV_strs]; exact h
/-- what a dict of the text holds, by its keys -/
def rNotInKd (K : PySem.W.Frag) (p : Addr) : R2 := fun x y H Q => ∃ (z : Str) (r : Option Value), x = .str z ∧ y = .ref p ∧ PySem.W.nsIn K p z = some r ∧ Q (.bl (!r.isSome)) H
theorem k_notIn_kd {X : Cx} (hK : X.K = K) {p : Addr} {es : Array DictEntry} {n : Nat} (D : KDict X.K X.w p es n) : OpR X (compareOp .NotIn) (rNotInKd K p) := by subst hK; exact op_notIn_kd D
theorem k_ix_kd {X : Cx} (hK : X.K = K) {w : World} (hw : X.w = w) : IxR X (rIxD K w) := by subst hK; subst hw; exact ix_kdict
theorem ed_notInKd {a : Str} {p : Addr} {b : Bool} (ha : EvD ta σ H (.str a)) (hp : ∃ r : Option Value, PySem.W.nsIn K p a = some r ∧ r.isSome = b) : EvD (tOp (rNotInKd K p) ta (tC (.ref p))) σ H (.bool (!b)) := fun H1 e Q q =>
  ha H1 e _ fun x H2 e2 ix => by
    cases ix.s
    obtain ⟨r, h1, h2⟩ := hp
    exact ⟨a, r, rfl, rfl, h1, by rw [h2]; exact q _ H2 e2 (.bl _)⟩
theorem ed_ixKd {w : World} {a z : Str} {p : Addr} (ha : EvD ta σ H (.str a)) (hp : KDct K w p a (.str z)) : EvD (tOp (rIxD K w) (tC (.ref p)) ta) σ H (.str z) := fun H1 e Q q =>
  ha H1 e _ fun x H2 e2 ix => by
    cases ix.s
    exact ⟨p, a, .str z, rfl, rfl, hp, q _ H2 e2 (.str z)⟩
end
end Pd
set_option Elab.async false
set_option linter.all false
set_option maxRecDepth 100000
set_option maxHeartbeats 2000000
/-! Dk: dicts with text keys; lists that change, by data. -/
namespace Pd
open PySem PyProof.Rows L2 Evl
section
variable {K : PySem.W.Frag} {σ : L2.St} {H H' : Hp} {ta tb te tx tl to : TE} {u u2 : TT} {x y z v : V} {d d' e' : PyData} {ds es : List PyData} {D : Ends} {tz : TS}
theorem keyne {a b : Str} (h : decide (a = b) = false) : ¬ (Sum.inr a : Key) = Sum.inr b := fun e => of_decide_eq_false h (Sum.inr.inj e)
theorem ev_dget {i : Nat} {p : Addr} {k : Str} {kvs : List (Key × V)} (h : σ[i]? = some (some (.ref p))) (hd : H p = some (.dK kvs)) (hv : valV kvs (.inr k) = some v) : Ev (tDGet (tVar i) (tC (.str k))) σ H v := fun H1 e Q q =>
  ⟨.ref p, h, p, v, rfl, hv ▸ DGet.k (k := .inr k) (e _ _ hd), q H1 (Ex.refl H1)⟩
theorem ed_dget {i : Nat} {p : Addr} {k : Str} {kvs : List (Key × V)} (h : σ[i]? = some (some (.ref p))) (hd : H p = some (.dK kvs)) (hv : valV kvs (.inr k) = some v) (iv : Im H v d) : EvD (tDGet (tVar i) (tC (.str k))) σ H d := EvD.of_ev (ev_dget h hd hv) iv
theorem s_dputD {i : Nat} {p : Addr} {k : Str} {kvs : List (Key × V)} (h : σ[i]? = some (some (.ref p))) (hd : H p = some (.dK kvs)) (hl : kvs.length < 100000) (hv : EvD te σ H d) (kk : ∀ v H1, Ex H H1 → Im H1 v d → H1 p = some (.dK kvs) → D.nx σ (L2.upd H1 p (.dK (putK kvs (.inr k) v)))) : sDPut (tVar i) (tC (.str k)) te D σ H :=
  hv H (Ex.refl H) _ fun v H1 e iv => ⟨.ref p, h, p, _, rfl, DPut.k (k := .inr k) (e _ _ hd) (sz_lt hl), kk v H1 e iv (e _ _ hd)⟩
theorem s_dputN {i : Nat} {p : Addr} {k : Str} {kvs : List (Key × V)} (h : σ[i]? = some (some (.ref p))) (hd : H p = some (.dK kvs)) (hl : kvs.length < 100000) (hv : EvN te σ H ds) (kk : ∀ q xs H1, H q = none → Ex H H1 → H1 q = some (.lst xs) → Ims H1 xs ds → H1 p = some (.dK kvs) → D.nx σ (L2.upd H1 p (.dK (putK kvs (.inr k) (.ref q))))) : sDPut (tVar i) (tC (.str k)) te D σ H :=
  hv H (Ex.refl H) _ fun q xs H1 n e a b => ⟨.ref p, h, p, _, rfl, DPut.k (k := .inr k) (e _ _ hd) (sz_lt hl), kk q xs H1 n e a b (e _ _ hd)⟩
theorem q_dputD {i : Nat} {p : Addr} {k : Str} {kvs : List (Key × V)} (h : σ[i]? = some (some (.ref p))) (hd : H p = some (.dK kvs)) (hl : kvs.length < 100000) (hv : EvD te σ H d) (kk : ∀ v H1, Ex H H1 → Im H1 v d → H1 p = some (.dK kvs) → tz D σ (L2.upd H1 p (.dK (putK kvs (.inr k) v)))) : tSeq (sDPut (tVar i) (tC (.str k)) te) tz D σ H := s_dputD (D := { D with nx := tz D }) h hd hl hv kk
theorem tx_upd {p : Addr} {o : HO} (h : ∀ xs, H p ≠ some (.tup xs)) : Tx H (L2.upd H p o) := fun a xs ha => by
  by_cases c : a = p
  · subst c; exact absurd ha (h xs)
  · rw [upd_ne c]; exact ha
theorem tx_dk {p : Addr} {o : HO} {kvs : List (Key × V)} (h : H p = some (.dK kvs)) : Tx H (L2.upd H p o) := tx_upd fun xs z => by rw [h] at z; cases z
theorem ExM.updD {M : List Addr} {p : Addr} {o : HO} {kvs : List (Key × V)} (h : H p = some (.dK kvs)) (hm : p ∈ M) : ExM M H (L2.upd H p o) :=
  ⟨fun a u n ha => by rw [upd_ne (fun z => n (by rw [z]; exact hm))]; exact ha, tx_dk h⟩
/-- l.append(v), l known as a value -/
theorem s_appA {l : Addr} {xs : List V} (hl : H l = some (.lst xs)) (ha : Ev ta σ H (.ref l)) (h : EvD te σ H d) (hz : xs.length < 100000) (k : ∀ v H1, Ex H H1 → H1 l = some (.lst xs) → Im H1 v d → D.nx σ (L2.upd H1 l (.lst (xs ++ [v])))) :
    tDrop (tBM K "list" rAppend ta (tCons te tNil)) D σ H := ha H (Ex.refl H) _ fun H1 e1 =>
  ⟨Or.inl ⟨rfl, xs, sq_of (e1 l _ hl)⟩, h H1 e1 _ fun v H2 e2 iv => ⟨l, xs, v, rfl, rfl, e2 l _ (e1 l _ hl), sz_lt hz, k v H2 (e1.trans e2) (e2 l _ (e1 l _ hl)) iv⟩⟩
theorem q_appA {l : Addr} {xs : List V} (hl : H l = some (.lst xs)) (ha : Ev ta σ H (.ref l)) (h : EvD te σ H d) (hz : xs.length < 100000) (k : ∀ v H1, Ex H H1 → H1 l = some (.lst xs) → Im H1 v d → tz D σ (L2.upd H1 l (.lst (xs ++ [v])))) :
    tSeq (tDrop (tBM K "list" rAppend ta (tCons te tNil))) tz D σ H := s_appA (D := { D with nx := tz D }) hl ha h hz k
/-- l.pop() -/
theorem q_popA {l : Addr} {xs : List V} (hl : H l = some (.lst (xs ++ [x]))) (ha : Ev ta σ H (.ref l)) (k : ∀ H1, Ex H H1 → tz D σ (L2.upd H1 l (.lst xs))) : tSeq (tDrop (tBM0 K "list" rPop ta)) tz D σ H := ha H (Ex.refl H) _ fun H1 e1 =>
  ⟨Or.inl ⟨rfl, _, sq_of (e1 l _ hl)⟩, l, xs ++ [x], x, rfl, rfl, e1 _ _ hl, by simp, by
    have : (xs ++ [x]).dropLast = xs := by simp
    rw [this]; exact k H1 e1⟩
theorem ixN_last (n : Nat) : ixN (n + 1) (-1) = some n := by
  unfold ixN
  rw [if_neg (by decide), if_pos (by omega)]
  congr 1
  omega
/-- l[-1] = v -/
theorem q_setLast {l : Addr} {xs : List V} (hl : H l = some (.lst (xs ++ [x]))) (h : EvD te σ H d) (ho : Ev ta σ H (.ref l)) (k : ∀ v H1, Ex H H1 → H1 l = some (.lst (xs ++ [x])) → Im H1 v d → tz D σ (L2.upd H1 l (.lst (xs ++ [v])))) :
    tSeq (tAsg te (gSub ta (tUn (rU fun i => V.int (-i)) (tC (.int 1))) rSetL)) tz D σ H := h H (Ex.refl H) _ fun v H1 e1 iv => ho H1 e1 _ fun H2 e2 => ⟨1, rfl, by
    have h2 := (e1.trans e2) _ _ hl
    refine ⟨l, xs ++ [x], -1, xs.length, rfl, rfl, h2, ?_, ?_⟩
    · rw [List.length_append]; exact ixN_last _
    · have : (xs ++ [x]).set xs.length v = xs ++ [v] := by simp
      rw [this]
      exact k v H2 (e1.trans e2) h2 (iv.mono e2)⟩
end
end Pd
set_option Elab.async false
set_option linter.all false
set_option maxRecDepth 100000
set_option maxHeartbeats 2000000
/-! Wa: the plain layer. Immutable values are data, mutable ones are references into a logical heap; what a reading of HandS asks is said again over these (RE, RS ..). -/
namespace Wl
open PySem PySem.Spec PyProof.Rows L2 Evl Pd
theorem map_toNat_inj : ∀ {a b : List Char}, a.map Char.toNat = b.map Char.toNat → a = b
  | [], [], _ => rfl
  | [], _ :: _, h => by cases h
  | _ :: _, [], h => by cases h
  | x :: a, y :: b, h => by
    rw [List.map_cons, List.map_cons] at h
    obtain ⟨h1, h2⟩ := List.cons.inj h
    have hx : x = y := by
      apply Char.ext
      exact UInt32.toNat_inj.mp h1
    rw [hx, map_toNat_inj h2]
/-- texts that are written -/
@[simp] theorem ofString_inj {a b : String} : (Str.ofString a = Str.ofString b) = (a = b) := by
  apply propext
  refine ⟨fun h => ?_, fun h => by rw [h]⟩
  rw [Str.ofString_eq_byList] at h
  unfold Str.ofStringByList at h
  have h2 := congrArg (fun s : Str => s.cps.toList) h
  simp only [List.toList_toArray] at h2
  exact String.toList_inj.mp (map_toNat_inj h2)
@[simp] theorem ofString_beq {a b : String} : (Str.ofString a == Str.ofString b) = decide (a = b) := by
  by_cases h : a = b
  · subst h; simp
  · rw [decide_eq_false h]
    exact beq_eq_false_iff_ne.mpr (by rw [ne_eq, ofString_inj]; exact h)
/-- a reference -/
abbrev rf (a : Addr) : PyData := .dict [(.int ((a : Nat) : Int), .none)]
@[simp] theorem addr_inj {a b : Addr} : ((((a : Nat) : Int) = ((b : Nat) : Int)) = (a = b)) := by
  apply propext
  exact ⟨fun h => Int.ofNat.inj h, fun h => by rw [h]⟩
def asR : PyData → Option Addr
  | .dict [(.int i, .none)] => some i.toNat
  | _ => none
@[simp] theorem asR_rf (a : Addr) : asR (rf a) = some a := by simp [asR]
theorem asR_eq {d : PyData} {a : Addr} (h : asR d = some a) : ∃ i : Int, d = .dict [(.int i, .none)] ∧ i.toNat = a := by
  unfold asR at h
  split at h
  · exact ⟨_, rfl, Option.some.inj h⟩
  · cases h
/-- what stands at a reference -/
inductive LO where
  | lst (ds : List PyData)
  | dK (kvs : List (Key × PyData))
  | dT (kvs : List (List Key × PyData))
  | ins (C : Addr) (fs : List (Str × PyData))
  | set (w : World) (a : Addr) (ks : List Int)
  /-- a dict while a loop walks it -/
  | lk (od : Obj) (xs : List (Key × V)) (kvs : List (Key × PyData))
  | lkT (od : Obj) (xs : List (List Key × V)) (kvs : List (List Key × PyData))
abbrev Lh := Addr → Option LO
def up (h : Lh) (a : Addr) (o : LO) : Lh := fun b => if b = a then some o else h b
@[simp] theorem up_same {h : Lh} {a : Addr} {o : LO} : up h a o a = some o := by unfold up; rw [if_pos rfl]
@[simp] theorem up_up {h : Lh} {a : Addr} {o u : LO} : up (up h a o) a u = up h a u := by
  funext b; unfold up; split <;> rfl
theorem up_ne {h : Lh} {a b : Addr} {o : LO} (n : b ≠ a) : up h a o b = h b := by unfold up; rw [if_neg n]
/-- a tuple, a list of the text -/
def KT (K : PySem.W.Frag) (a : Addr) (xs : List V) : Prop := ∃ (o : Obj) (its : Array Value) (n : Nat), K.lookup a = some o ∧ o.cls = .type "tuple" ∧ o.data = .seq its n ∧ its.size ≤ sizeLine ∧ Vals xs its.toList
def Li0 : Unit := ()
section
variable (K : PySem.W.Frag)
def Tu (N : Addr → Prop) (H : Hp) (h : Lh) (a : Addr) (xs : List V) : Prop := (H a = some (.tup xs) ∧ h a = none ∧ ¬ N a) ∨ KT K a xs
def Li (N : Addr → Prop) (H : Hp) (h : Lh) (a : Addr) (xs : List V) : Prop := H a = some (.lst xs) ∧ h a = none ∧ ¬ N a
/-- the script: a list that is read -/
def Sc (N : Addr → Prop) (H : Hp) (h : Lh) (a : Addr) (xs : List V) : Prop := (Rd H a (.lst xs) ∧ h a = none ∧ ¬ N a) ∨ ∃ (o : Obj) (its : Array Value) (n : Nat), K.lookup a = some o ∧ o.cls = .type "list" ∧ o.dict = none ∧ o.data = .seq its n ∧ its.size ≤ sizeLine ∧ Vals xs its.toList
mutual
/-- v is d -/
inductive Rl (N : Addr → Prop) (H : Hp) (h : Lh) : V → PyData → Prop
  | non : Rl N H h .non .none
  | bl (b : Bool) : Rl N H h (.bl b) (.bool b)
  | int (i : Int) : Rl N H h (.int i) (.int i)
  | str (x : Str) : Rl N H h (.str x) (.str x)
  | lst {a : Addr} {xs : List V} {ds : List PyData} : Li N H h a xs → Rls N H h xs ds → Rl N H h (.ref a) (.list ds)
  | tup {a : Addr} {xs : List V} {ds : List PyData} : Tu K N H h a xs → Rls N H h xs ds → Rl N H h (.ref a) (.tuple ds)
  | rf (a : Addr) : Rl N H h (.ref a) (.dict [(.int ((a : Nat) : Int), .none)])
  | scr {a : Addr} (ns : List Int) : Sc K N H h a (ns.map V.int) → Rl N H h (.ref a) (.dict [(.none, .tuple (ns.map PyData.int))])
inductive Rls (N : Addr → Prop) (H : Hp) (h : Lh) : List V → List PyData → Prop
  | nil : Rls N H h [] []
  | cons {v : V} {vs : List V} {d : PyData} {ds : List PyData} : Rl N H h v d → Rls N H h vs ds → Rls N H h (v :: vs) (d :: ds)
end
end
/-- from one state to a later one: what is no mutable object stays -/
structure Tr (H : Hp) (h : Lh) (H' : Hp) (h' : Lh) : Prop where
  k : ∀ a o, H a = some o → h a = none → H' a = some o ∧ h' a = none
  n : ∀ a, H' a = none → H a = none
theorem Tr.refl (H : Hp) (h : Lh) : Tr H h H h := ⟨fun _ _ a b => ⟨a, b⟩, fun _ a => a⟩
theorem Tr.rd {H H' : Hp} {h h' : Lh} {a : Addr} {u : HO} (t : Tr H h H' h') (r : Rd H a u) (e : h a = none) : Rd H' a u := by
  rcases r with r | ⟨o, r⟩
  · exact .inl (t.k _ _ r e).1
  · exact .inr ⟨o, (t.k _ _ r e).1⟩
theorem Rd.some {H : Hp} {a : Addr} {u : HO} (r : Rd H a u) : ∃ o, H a = some o := by
  rcases r with r | ⟨o, r⟩
  · exact ⟨_, r⟩
  · exact ⟨_, r⟩
theorem Tr.trans {H H1 H2 : Hp} {h h1 h2 : Lh} (x : Tr H h H1 h1) (y : Tr H1 h1 H2 h2) : Tr H h H2 h2 := ⟨fun a o p q => y.k a o (x.k a o p q).1 (x.k a o p q).2, fun a e => x.n a (y.n a e)⟩
theorem upd_none {H : Hp} {p a : Addr} {o : HO} (e : L2.upd H p o a = none) : H a = none := by
  unfold L2.upd at e
  split at e
  · cases e
  · exact e
theorem Tr.new {H : Hp} {h : Lh} {p : Addr} {o : HO} (hp : H p = none) : Tr H h (L2.upd H p o) h := ⟨fun a u e q => ⟨by rw [upd_ne (fun z => by rw [z, hp] at e; cases e)]; exact e, q⟩, fun a e => upd_none e⟩
theorem Tr.ex {H H' : Hp} {h : Lh} (e : Ex H H') : Tr H h H' h := ⟨fun a o p q => ⟨e a o p, q⟩, fun a q => by
  cases z : H a with
  | none => rfl
  | some o => rw [e a o z] at q; cases q⟩
section
variable {K : PySem.W.Frag} {N N' : Addr → Prop} {H H' H1 : Hp} {h h' h1 : Lh}
mutual
theorem Rl.tr (t : Tr H h H' h') : ∀ {d : PyData} {v : V}, Rl K N H h v d → Rl K N H' h' v d
  | .none, _, r => by cases r; exact .non
  | .bool _, _, r => by cases r; exact .bl _
  | .int _, _, r => by cases r; exact .int _
  | .str _, _, r => by cases r; exact .str _
  | .list ds, _, r => by
    cases r with
    | lst h1 h2 =>
      obtain ⟨a, b, c⟩ := h1
      exact .lst ⟨(t.k _ _ a b).1, (t.k _ _ a b).2, c⟩ (Rls.tr t h2)
  | .tuple ds, _, r => by
    cases r with
    | tup h1 h2 =>
      refine .tup ?_ (Rls.tr t h2)
      rcases h1 with ⟨a, b, c⟩ | k
      · exact .inl ⟨(t.k _ _ a b).1, (t.k _ _ a b).2, c⟩
      · exact .inr k
  | .dict _, _, r => by
    cases r with
    | rf => exact .rf _
    | scr ns c =>
      refine .scr ns ?_
      rcases c with ⟨a, b, c⟩ | k
      · obtain ⟨o, e⟩ := Rd.some a
        exact .inl ⟨t.rd a b, (t.k _ _ e b).2, c⟩
      · exact .inr k
theorem Rls.tr (t : Tr H h H' h') : ∀ {ds : List PyData} {vs : List V}, Rls K N H h vs ds → Rls K N H' h' vs ds
  | [], _, r => by cases r; exact .nil
  | d :: ds, _, r => by cases r with | cons a b => exact .cons (Rl.tr t a) (Rls.tr t b)
end
mutual
/-- fewer things are hidden, or more that are new -/
theorem Rl.hid (t : ∀ a, N' a → N a ∨ H a = none) : ∀ {d : PyData} {v : V}, Rl K N H h v d → Rl K N' H h v d
  | .none, _, r => by cases r; exact .non
  | .bool _, _, r => by cases r; exact .bl _
  | .int _, _, r => by cases r; exact .int _
  | .str _, _, r => by cases r; exact .str _
  | .list ds, _, r => by
    cases r with
    | lst h1 h2 =>
      obtain ⟨a, b, c⟩ := h1
      exact .lst ⟨a, b, fun z => (t _ z).elim c fun e => by rw [e] at a; cases a⟩ (Rls.hid t h2)
  | .tuple ds, _, r => by
    cases r with
    | tup h1 h2 =>
      refine .tup ?_ (Rls.hid t h2)
      rcases h1 with ⟨a, b, c⟩ | k
      · exact .inl ⟨a, b, fun z => (t _ z).elim c fun e => by rw [e] at a; cases a⟩
      · exact .inr k
  | .dict _, _, r => by
    cases r with
    | rf => exact .rf _
    | scr ns c =>
      refine .scr ns ?_
      rcases c with ⟨a, b, c⟩ | k
      · obtain ⟨o, e⟩ := Rd.some a
        exact .inl ⟨a, b, fun z => (t _ z).elim c fun q => by rw [q] at e; cases e⟩
      · exact .inr k
theorem Rls.hid (t : ∀ a, N' a → N a ∨ H a = none) : ∀ {ds : List PyData} {vs : List V}, Rls K N H h vs ds → Rls K N' H h vs ds
  | [], _, r => by cases r; exact .nil
  | d :: ds, _, r => by cases r with | cons a b => exact .cons (Rl.hid t a) (Rls.hid t b)
end
mutual
/-- a step over what is not hidden: at a hidden place anything may be written -/
theorem Rl.trN (t : ∀ a o, H a = some o → h a = none → ¬ N a → H' a = some o ∧ h' a = none ∧ ¬ N' a) : ∀ {d : PyData} {v : V}, Rl K N H h v d → Rl K N' H' h' v d
  | .none, _, r => by cases r; exact .non
  | .bool _, _, r => by cases r; exact .bl _
  | .int _, _, r => by cases r; exact .int _
  | .str _, _, r => by cases r; exact .str _
  | .list ds, _, r => by
    cases r with
    | lst h1 h2 =>
      obtain ⟨a, b, c⟩ := h1
      exact .lst (t _ _ a b c) (Rls.trN t h2)
  | .tuple ds, _, r => by
    cases r with
    | tup h1 h2 =>
      refine .tup ?_ (Rls.trN t h2)
      rcases h1 with ⟨a, b, c⟩ | k
      · exact .inl (t _ _ a b c)
      · exact .inr k
  | .dict _, _, r => by
    cases r with
    | rf => exact .rf _
    | scr ns c =>
      refine .scr ns ?_
      rcases c with ⟨a, b, c⟩ | k
      · refine .inl ?_
        rcases a with a | ⟨o, a⟩
        · obtain ⟨q1, q2, q3⟩ := t _ _ a b c
          exact ⟨.inl q1, q2, q3⟩
        · obtain ⟨q1, q2, q3⟩ := t _ _ a b c
          exact ⟨.inr ⟨o, q1⟩, q2, q3⟩
      · exact .inr k
theorem Rls.trN (t : ∀ a o, H a = some o → h a = none → ¬ N a → H' a = some o ∧ h' a = none ∧ ¬ N' a) : ∀ {ds : List PyData} {vs : List V}, Rls K N H h vs ds → Rls K N' H' h' vs ds
  | [], _, r => by cases r; exact .nil
  | d :: ds, _, r => by cases r with | cons a b => exact .cons (Rl.trN t a) (Rls.trN t b)
end
theorem Rl.s {v : V} {x : Str} (r : Rl K N H h v (.str x)) : v = .str x := by cases r; rfl
theorem Rl.i {v : V} {x : Int} (r : Rl K N H h v (.int x)) : v = .int x := by cases r; rfl
theorem Rl.b {v : V} {x : Bool} (r : Rl K N H h v (.bool x)) : v = .bl x := by cases r; rfl
theorem Rl.n {v : V} (r : Rl K N H h v .none) : v = .non := by cases r; rfl
theorem Rl.r {v : V} {d : PyData} {a : Addr} (r : Rl K N H h v d) (e : asR d = some a) : v = .ref a := by
  obtain ⟨i, rfl, rfl⟩ := asR_eq e
  cases r
  simp
theorem Tu.sq {a : Addr} {xs : List V} (t : Tu K N H h a xs) : SqT K H a xs := by
  rcases t with t | t
  · exact SqT.of t.1
  · exact .inr t
theorem Li.sq {a : Addr} {xs : List V} (t : Li N H h a xs) : SqL K H a xs := SqL.of t.1
theorem Rl.t {v : V} {ds : List PyData} (r : Rl K N H h v (.tuple ds)) : ∃ a xs, v = .ref a ∧ Tu K N H h a xs ∧ Rls K N H h xs ds := by cases r with | tup a b => exact ⟨_, _, rfl, a, b⟩
theorem Rl.l {v : V} {ds : List PyData} (r : Rl K N H h v (.list ds)) : ∃ a xs, v = .ref a ∧ Li N H h a xs ∧ Rls K N H h xs ds := by cases r with | lst a b => exact ⟨_, _, rfl, a, b⟩
theorem Rls.length : ∀ {ds : List PyData} {vs : List V}, Rls K N H h vs ds → vs.length = ds.length
  | [], _, r => by cases r; rfl
  | d :: ds, _, r => by cases r with | cons a b => simp [Rls.length b]
theorem Rls.get : ∀ {ds : List PyData} {vs : List V} {i : Nat} {v : V}, Rls K N H h vs ds → vs[i]? = some v → ∃ d, ds[i]? = some d ∧ Rl K N H h v d
  | [], _, _, _, r, e => by cases r; simp at e
  | d :: ds, _, 0, v, r, e => by cases r with | cons a b => simp at e; subst e; exact ⟨d, rfl, a⟩
  | d :: ds, _, i + 1, v, r, e => by cases r with | cons a b => exact Rls.get (i := i) b (by simpa using e)
theorem Rls.getD : ∀ {ds : List PyData} {vs : List V} {i : Nat} {d : PyData}, Rls K N H h vs ds → ds[i]? = some d → ∃ v, vs[i]? = some v ∧ Rl K N H h v d
  | [], _, _, _, r, e => by simp at e
  | d :: ds, _, 0, v, r, e => by cases r with | cons a b => simp at e; subst e; exact ⟨_, rfl, a⟩
  | d :: ds, _, i + 1, v, r, e => by cases r with | cons a b => exact Rls.getD (i := i) b (by simpa using e)
theorem Rls.append : ∀ {ds es : List PyData} {vs ws : List V}, Rls K N H h vs ds → Rls K N H h ws es → Rls K N H h (vs ++ ws) (ds ++ es)
  | [], _, _, _, r, k => by cases r; exact k
  | d :: ds, _, _, _, r, k => by cases r with | cons a b => exact .cons a (Rls.append b k)
theorem Rls.take : ∀ {ds : List PyData} {vs : List V} (n : Nat), Rls K N H h vs ds → Rls K N H h (vs.take n) (ds.take n)
  | _, _, 0, _ => .nil
  | [], _, n + 1, r => by cases r; exact .nil
  | d :: ds, _, n + 1, r => by cases r with | cons a b => exact .cons a (Rls.take n b)
theorem Rls.drop : ∀ {ds : List PyData} {vs : List V} (n : Nat), Rls K N H h vs ds → Rls K N H h (vs.drop n) (ds.drop n)
  | _, _, 0, r => r
  | [], _, n + 1, r => by cases r; exact .nil
  | d :: ds, _, n + 1, r => by cases r with | cons a b => exact Rls.drop n b
theorem Rls.set {v : V} {d : PyData} (r : Rl K N H h v d) : ∀ {ds : List PyData} {vs : List V} (i : Nat), Rls K N H h vs ds → Rls K N H h (vs.set i v) (ds.set i d)
  | [], _, _, k => by cases k; exact .nil
  | d :: ds, _, 0, k => by cases k with | cons a b => exact .cons r b
  | d :: ds, _, i + 1, k => by cases k with | cons a b => exact .cons a (Rls.set r i b)
theorem Rls.one {vs : List V} {d : PyData} (r : Rls K N H h vs [d]) : ∃ v, vs = [v] ∧ Rl K N H h v d := by
  cases r with | cons a b => cases b; exact ⟨_, rfl, a⟩
theorem Rls.two {vs : List V} {d e : PyData} (r : Rls K N H h vs [d, e]) : ∃ v w, vs = [v, w] ∧ Rl K N H h v d ∧ Rl K N H h w e := by
  cases r with | cons a b => obtain ⟨w, rfl, c⟩ := b.one; exact ⟨_, _, rfl, a, c⟩
theorem Rls.strs : ∀ {ss : List Str} {vs : List V}, Rls K N H h vs (ss.map PyData.str) → vs = ss.map V.str
  | [], _, r => by cases r; rfl
  | s :: ss, _, r => by cases r with | cons a b => rw [a.s, Rls.strs b]; rfl
theorem Rls.bls : ∀ {ss : List Bool} {vs : List V}, Rls K N H h vs (ss.map PyData.bool) → vs = ss.map V.bl
  | [], _, r => by cases r; rfl
  | s :: ss, _, r => by cases r with | cons a b => rw [a.b, Rls.bls b]; rfl
mutual
/-- no reference within -/
def clean : PyData → Bool
  | .dict _ => false
  | .list ds => cleans ds
  | .tuple ds => cleans ds
  | _ => true
def cleans : List PyData → Bool
  | [] => true
  | d :: ds => clean d && cleans ds
end
mutual
theorem Rl.dp : ∀ {d : PyData} {v : V}, clean d = true → Rl K N H h v d → Dp K H v d
  | .none, _, _, r => by cases r; exact .non
  | .bool _, _, _, r => by cases r; exact .bl _
  | .int _, _, _, r => by cases r; exact .int _
  | .str _, _, _, r => by cases r; exact .str _
  | .list ds, _, s, r => by cases r with | lst a b => exact .lst a.sq (Rls.dp s b)
  | .tuple ds, _, s, r => by cases r with | tup a b => exact .tup a.sq (Rls.dp s b)
  | .dict _, _, s, r => by cases s
theorem Rls.dp : ∀ {ds : List PyData} {vs : List V}, cleans ds = true → Rls K N H h vs ds → DpAll K H vs ds
  | [], _, _, r => by cases r; exact .nil
  | d :: ds, _, s, r => by
    cases r with
    | cons a b =>
      have s' : clean d = true ∧ cleans ds = true := Bool.and_eq_true_iff.mp s
      exact .cons (Rl.dp s'.1 a) (Rls.dp s'.2 b)
end
end
/-! ### the heap -/
section
variable (K : PySem.W.Frag)
inductive Ok1 (N : Addr → Prop) (H : Hp) (h : Lh) : HO → LO → Prop
  | lst {xs : List V} {ds : List PyData} : Rls K N H h xs ds → Ok1 N H h (.lst xs) (.lst ds)
  | dK {xs : List (Key × V)} {ds : List (Key × PyData)} : Paired (fun (p : Key × V) (q : Key × PyData) => p.1 = q.1 ∧ Rl K N H h p.2 q.2) xs ds → Ok1 N H h (.dK xs) (.dK ds)
  | dT {xs : List (List Key × V)} {ds : List (List Key × PyData)} : Paired (fun (p : List Key × V) (q : List Key × PyData) => p.1 = q.1 ∧ Rl K N H h p.2 q.2) xs ds → Ok1 N H h (.dT xs) (.dT ds)
  | ins {C dx : Addr} {xs : List (Str × V)} {ds : List (Str × PyData)} : Paired (fun (p : Str × V) (q : Str × PyData) => p.1 = q.1 ∧ Rl K N H h p.2 q.2) xs ds → Ok1 N H h (.ins C dx xs) (.ins C ds)
  | lk {od : Obj} {xs : List (Key × V)} {ds : List (Key × PyData)} : Paired (fun (p : Key × V) (q : Key × PyData) => p.1 = q.1 ∧ Rl K N H h p.2 q.2) xs ds → Ok1 N H h (.frz od (.dK xs)) (.lk od xs ds)
  | lkT {od : Obj} {xs : List (List Key × V)} {ds : List (List Key × PyData)} : Paired (fun (p : List Key × V) (q : List Key × PyData) => p.1 = q.1 ∧ Rl K N H h p.2 q.2) xs ds → Ok1 N H h (.frz od (.dT xs)) (.lkT od xs ds)
  | set (w : World) (a : Addr) (ks : List Int) : Ok1 N H h (SetO w a (fun j => decide (j ∈ ks)) ks.length) (.set w a ks)
structure Sim (N : Addr → Prop) (H : Hp) (h : Lh) : Prop where
  at_ : ∀ a o, h a = some o → ¬ N a ∧ ∃ u, H a = some u ∧ Ok1 K N H h u o
  hid : ∀ a, N a → ∃ u, H a = some u ∧ ∀ xs, u ≠ .tup xs
end
theorem Paired.mono2 {α β : Type} {r s : α → β → Prop} (f : ∀ a b, r a b → s a b) : ∀ {xs : List α} {ys : List β}, Paired r xs ys → Paired s xs ys
  | _, _, .nil => .nil
  | _, _, .cons a b => .cons (f _ _ a) (Paired.mono2 f b)
section
variable {K : PySem.W.Frag} {N N' : Addr → Prop} {H H' H1 : Hp} {h h' h1 : Lh} {u : HO} {o : LO}
theorem Ok1.mono (f : ∀ v d, Rl K N H h v d → Rl K N' H' h' v d) (g : ∀ v d, Rls K N H h v d → Rls K N' H' h' v d) (k : Ok1 K N H h u o) : Ok1 K N' H' h' u o := by
  cases k with
  | lst a => exact .lst (g _ _ a)
  | dK a => exact .dK (Paired.mono2 (fun p q z => ⟨z.1, f _ _ z.2⟩) a)
  | dT a => exact .dT (Paired.mono2 (fun p q z => ⟨z.1, f _ _ z.2⟩) a)
  | ins a => exact .ins (Paired.mono2 (fun p q z => ⟨z.1, f _ _ z.2⟩) a)
  | set w a ks => exact .set w a ks
  | lk a => exact .lk (Paired.mono2 (fun p q z => ⟨z.1, f _ _ z.2⟩) a)
  | lkT a => exact .lkT (Paired.mono2 (fun p q z => ⟨z.1, f _ _ z.2⟩) a)
theorem Ok1.tr (t : Tr H h H' h') (k : Ok1 K N H h u o) : Ok1 K N H' h' u o := k.mono (fun _ _ => Rl.tr t) (fun _ _ => Rls.tr t)
theorem Sim.nn {a : Addr} (S : Sim K N H h) (e : H a = none) : ¬ N a := fun z => by
  obtain ⟨u, q, _⟩ := S.hid a z
  rw [e] at q; cases q
/-- a tuple is not hidden -/
theorem Sim.nt {a : Addr} {xs : List V} (S : Sim K N H h) (e : H a = some (.tup xs)) : ¬ N a := fun z => by
  obtain ⟨u, q, n⟩ := S.hid a z
  rw [e] at q; cases q; exact n _ rfl
theorem Sim.hn {a : Addr} (S : Sim K N H h) (e : H a = none) : h a = none := by
  cases q : h a with
  | none => rfl
  | some o =>
    obtain ⟨_, u, z, _⟩ := S.at_ a o q
    rw [e] at z; cases z
/-- a real object more -/
theorem Sim.ex (S : Sim K N H h) (e : Ex H H') : Sim K N H' h :=
  ⟨fun a o q => by
    obtain ⟨n, u, z, k⟩ := S.at_ a o q
    exact ⟨n, u, e a u z, k.tr (Tr.ex e)⟩, fun a z => by
    obtain ⟨u, q, n⟩ := S.hid a z
    exact ⟨u, e a u q, n⟩⟩
theorem Sim.new {p : Addr} {v : HO} (S : Sim K N H h) (hp : H p = none) : Sim K N (L2.upd H p v) h := S.ex (Ex.new hp)
/-- a mutable object more, or another content of one -/
theorem Tr.put {p : Addr} {v : HO} {l : LO} (hp : H p = none ∨ h p ≠ none) : Tr H h (L2.upd H p v) (up h p l) := ⟨fun a u e q => by
  have n : a ≠ p := fun z => by
    subst z
    rcases hp with hp | hp
    · rw [hp] at e; cases e
    · exact hp q
  exact ⟨by rw [upd_ne n]; exact e, by rw [up_ne n]; exact q⟩, fun a e => upd_none e⟩
theorem Sim.put {p : Addr} {v : HO} {l : LO} (S : Sim K N H h) (hp : H p = none ∨ h p ≠ none) (k : Ok1 K N H h v l) : Sim K N (L2.upd H p v) (up h p l) := by
  have t : Tr H h (L2.upd H p v) (up h p l) := Tr.put hp
  refine ⟨fun a o q => ?_, fun a z => ?_⟩
  · by_cases c : a = p
    · subst c
      rw [up_same] at q
      cases q
      refine ⟨?_, v, upd_same, k.tr t⟩
      rcases hp with hp | hp
      · exact S.nn hp
      · cases e : h a with
        | none => exact absurd e hp
        | some o => exact (S.at_ a o e).1
    · rw [up_ne c] at q
      obtain ⟨n, u, e, k⟩ := S.at_ a o q
      exact ⟨n, u, by rw [upd_ne c]; exact e, k.tr t⟩
  · by_cases c : a = p
    · subst c
      refine ⟨v, upd_same, fun xs z => ?_⟩
      subst z
      cases k
    · rw [upd_ne c]; exact S.hid a z
/-- some mutable objects are forgotten -/
theorem Sim.drop (S : Sim K N H h) (f : ∀ a o, h' a = some o → h a = some o) : Sim K N H h' := by
  have t : Tr H h H h' := ⟨fun a o e q => ⟨e, by
    cases z : h' a with
    | none => rfl
    | some o => rw [f a o z] at q; cases q⟩, fun _ e => e⟩
  exact ⟨fun a o q => by
    obtain ⟨n, u, e, k⟩ := S.at_ a o (f a o q)
    exact ⟨n, u, e, k.tr t⟩, S.hid⟩
theorem Tr.drop (f : ∀ a o, h' a = some o → h a = some o) : Tr H h H h' := ⟨fun a o e q => ⟨e, by
  cases z : h' a with
  | none => rfl
  | some o => rw [f a o z] at q; cases q⟩, fun _ e => e⟩
end
/-! ### slots -/
abbrev Ev' := List (Option PyData)
def En (K : PySem.W.Frag) (N : Addr → Prop) (H : Hp) (h : Lh) (σ : L2.St) (ρ : Ev') : Prop := σ.length = ρ.length ∧ ∀ (i : Nat) (d : PyData), ρ[i]? = some (some d) → ∃ v, σ[i]? = some (some v) ∧ Rl K N H h v d
section
variable {K : PySem.W.Frag} {N N' : Addr → Prop} {H H' H1 : Hp} {h h' h1 : Lh} {σ : L2.St} {ρ : Ev'}
theorem En.tr (t : Tr H h H' h') (e : En K N H h σ ρ) : En K N H' h' σ ρ := ⟨e.1, fun i d q => by
  obtain ⟨v, a, b⟩ := e.2 i d q
  exact ⟨v, a, b.tr t⟩⟩
theorem En.mono (f : ∀ v d, Rl K N H h v d → Rl K N' H' h' v d) (e : En K N H h σ ρ) : En K N' H' h' σ ρ := ⟨e.1, fun i d q => by
  obtain ⟨v, a, b⟩ := e.2 i d q
  exact ⟨v, a, f _ _ b⟩⟩
theorem En.set {v : V} {d : PyData} (e : En K N H h σ ρ) (i : Nat) (r : Rl K N H h v d) : En K N H h (σ.set i (some v)) (ρ.set i (some d)) := ⟨by rw [List.length_set, List.length_set]; exact e.1, fun j c q => by
  by_cases z : i = j
  · subst z
    have hl : i < ρ.length := by
      have := List.getElem?_eq_some_iff.mp q
      obtain ⟨w, _⟩ := this
      rw [List.length_set] at w; exact w
    rw [List.getElem?_set_self hl] at q
    cases q
    exact ⟨v, by rw [List.getElem?_set_self (by rw [e.1]; exact hl)], r⟩
  · rw [List.getElem?_set_ne z] at q
    rw [List.getElem?_set_ne z]
    exact e.2 j c q⟩
theorem En.non (e : En K N H h σ ρ) (i : Nat) : En K N H h (σ.set i none) (ρ.set i none) := ⟨by rw [List.length_set, List.length_set]; exact e.1, fun j c q => by
  by_cases z : i = j
  · subst z
    have hl : i < ρ.length := by
      have := List.getElem?_eq_some_iff.mp q
      obtain ⟨w, _⟩ := this
      rw [List.length_set] at w; exact w
    rw [List.getElem?_set_self hl] at q
    cases q
  · rw [List.getElem?_set_ne z] at q
    rw [List.getElem?_set_ne z]
    exact e.2 j c q⟩
@[simp] def wipeD (ρ : Ev') : List Nat → Ev'
  | [] => ρ
  | v :: vs => (wipeD ρ vs).set v none
theorem En.wipe (e : En K N H h σ ρ) : ∀ vs, En K N H h (wipe σ vs) (wipeD ρ vs)
  | [] => e
  | v :: vs => (En.wipe e vs).non v
@[simp] def startD (NM : List Str) (ds : List PyData) : Ev' := ds.map some ++ List.replicate (NM.length - ds.length) none
theorem En.start {NM : List Str} {vs : List V} {ds : List PyData} (r : Rls K N H h vs ds) : En K N H h (L2.start NM vs) (startD NM ds) := by
  unfold L2.start startD
  refine ⟨by simp [r.length], fun i d q => ?_⟩
  rw [List.getElem?_append] at q
  split at q
  · rename_i hl
    rw [List.length_map] at hl
    rw [List.getElem?_map] at q
    obtain ⟨d', hd⟩ : ∃ d', ds[i]? = some d' := ⟨ds[i], by simp [hl]⟩
    rw [hd] at q
    cases q
    obtain ⟨v, hv, iv⟩ := r.getD hd
    refine ⟨v, ?_, iv⟩
    rw [List.getElem?_append_left (by rw [List.length_map, r.length]; exact hl), List.getElem?_map, hv]; rfl
  · exfalso
    rw [List.getElem?_replicate] at q
    by_cases z : i - (ds.map some).length < NM.length - ds.length
    · rw [if_pos z] at q; cases q
    · rw [if_neg z] at q; cases q
end
end Wl
set_option Elab.async false
set_option linter.all false
set_option maxRecDepth 100000
set_option maxHeartbeats 2000000
/-! Wb: what expressions ask, over data and references. -/
namespace Wl
open PySem PySem.Spec PyProof.Rows L2 Evl Pd
abbrev Wv := PyData → Lh → Prop
abbrev WE := Ev' → Lh → Wv → Prop
abbrev WA := Ev' → Lh → (List PyData → Lh → Prop) → Prop
abbrev WT := Ev' → Lh → (Bool → Lh → Prop) → Prop
abbrev WO := Ev' → Lh → (Option Int → Lh → Prop) → Prop
/-- what exceptions go on to: of the real state, of the plain one -/
structure XP where
  E : L2.St → XK
  X : Ev' → Addr → List (Str × PyData) → Lh → Prop
/-- an exception's own dict -/
def XRel (K : PySem.W.Frag) (N : Addr → Prop) (H : Hp) (h : Lh) (d : Option Addr) (fs : List (Str × PyData)) : Prop := match d with
  | none => fs = []
  | some dd => ∃ xs, H dd = some (.xd xs) ∧ Paired (fun (p : Str × V) (q : Str × PyData) => p.1 = q.1 ∧ Rl K N H h p.2 q.2) xs fs
def KoX (K : PySem.W.Frag) (XX : XP) (N : Addr → Prop) (H : Hp) (h : Lh) : Prop := ∀ σ ρ C d fs H' h', Tr H h H' h' → Sim K N H' h' → En K N H' h' σ ρ → XRel K N H' h' d fs → XX.X ρ C fs h' → XX.E σ (.ref C) d H'
structure Sx (K : PySem.W.Frag) (XX : XP) (N : Addr → Prop) (H : Hp) (h : Lh) : Prop extends Sim K N H h where
  x : KoX K XX N H h
instance {K : PySem.W.Frag} {XX : XP} {N : Addr → Prop} {H : Hp} {h : Lh} : CoeOut (Sx K XX N H h) (Sim K N H h) := ⟨Sx.toSim⟩
section
variable {K : PySem.W.Frag} {XX : XP} {N N' : Addr → Prop} {H H' : Hp} {h h' : Lh} {u : HO} {o : LO}
theorem KoX.tr (t : Tr H h H' h') (k : KoX K XX N H h) : KoX K XX N H' h' := fun σ ρ C d fs H2 h2 t2 => k σ ρ C d fs H2 h2 (t.trans t2)
theorem XRel.mono (f : ∀ v d, Rl K N H h v d → Rl K N' H h v d) {d : Option Addr} {fs : List (Str × PyData)} (x : XRel K N H h d fs) : XRel K N' H h d fs := by
  cases d with
  | none => exact x
  | some dd =>
    obtain ⟨xs, e, p⟩ := x
    exact ⟨xs, e, Paired.mono2 (fun a b z => ⟨z.1, f _ _ z.2⟩) p⟩
theorem Sim.less (n : ∀ a, N a → N' a) (S : Sim K N' H h) : Sim K N H h := by
  have f : ∀ a, N a → N' a ∨ H a = none := fun a z => .inl (n a z)
  exact ⟨fun a o q => by
    obtain ⟨n', u', e', k'⟩ := S.at_ a o q
    exact ⟨fun z => n' (n a z), u', e', k'.mono (fun v d => Rl.hid f) (fun v d => Rls.hid f)⟩, fun a z => S.hid a (n a z)⟩
/-- more is hidden -/
theorem KoX.hid (n : ∀ a, N a → N' a) (k : KoX K XX N H h) : KoX K XX N' H h := fun σ ρ C d fs H2 h2 t2 S2 E2 x2 p2 => by
  have f : ∀ a, N a → N' a ∨ H2 a = none := fun a z => .inl (n a z)
  exact k σ ρ C d fs H2 h2 t2 (S2.less n) (E2.mono fun v d => Rl.hid f) (x2.mono fun v d => Rl.hid f) p2
theorem Sx.to (S : Sx K XX N H h) (t : Tr H h H' h') (S' : Sim K N H' h') : Sx K XX N H' h' := ⟨S', S.x.tr t⟩
theorem Sx.ex (S : Sx K XX N H h) (e : Ex H H') : Sx K XX N H' h := S.to (Tr.ex e) (S.toSim.ex e)
theorem Sx.new {p : Addr} {v : HO} (S : Sx K XX N H h) (hp : H p = none) : Sx K XX N (L2.upd H p v) h := S.to (Tr.new hp) (S.toSim.new hp)
theorem Sx.put {p : Addr} {v : HO} {l : LO} (S : Sx K XX N H h) (hp : H p = none ∨ h p ≠ none) (k : Ok1 K N H h v l) : Sx K XX N (L2.upd H p v) (up h p l) := S.to (Tr.put hp) (S.toSim.put hp k)
theorem Sx.drop (S : Sx K XX N H h) (f : ∀ a o, h' a = some o → h a = some o) : Sx K XX N H h' := S.to (Tr.drop f) (S.toSim.drop f)
end
section
variable (K : PySem.W.Frag) (XX : XP) (N : Addr → Prop) (H : Hp) (h : Lh)
def Ko (P : Wv) (Q : VK) : Prop := ∀ v d H' h', Tr H h H' h' → Sx K XX N H' h' → Rl K N H' h' v d → P d h' → Q v H'
def KoA (P : List PyData → Lh → Prop) (Q : List V → Hp → Prop) : Prop := ∀ vs ds H' h', Tr H h H' h' → Sx K XX N H' h' → Rls K N H' h' vs ds → P ds h' → Q vs H'
def KoT (P : Bool → Lh → Prop) (Q : Bool → Hp → Prop) : Prop := ∀ b H' h', Tr H h H' h' → Sx K XX N H' h' → P b h' → Q b H'
def KoO (P : Option Int → Lh → Prop) (Q : Option Int → Hp → Prop) : Prop := ∀ b H' h', Tr H h H' h' → Sx K XX N H' h' → P b h' → Q b H'
/-- a new list -/
def KoN (P : List PyData → Lh → Prop) (Q : VK) : Prop := ∀ p xs ds H' h', H p = none → Tr H h H' h' → Sx K XX (fun a => N a ∨ a = p) H' h' → H' p = some (.lst xs) → Rls K (fun a => N a ∨ a = p) H' h' xs ds → P ds h' → Q (.ref p) H'
end
@[simp] theorem clean_none : Wl.clean .none = true := by simp [Wl.clean]
@[simp] theorem clean_int {i : Int} : Wl.clean (.int i) = true := by simp [Wl.clean]
@[simp] theorem clean_bool {i : Bool} : Wl.clean (.bool i) = true := by simp [Wl.clean]
@[simp] theorem clean_str {i : Str} : Wl.clean (.str i) = true := by simp [Wl.clean]
@[simp] theorem clean_tup {ds : List PyData} : Wl.clean (.tuple ds) = Wl.cleans ds := by simp [Wl.clean]
@[simp] theorem clean_lst {ds : List PyData} : Wl.clean (.list ds) = Wl.cleans ds := by simp [Wl.clean]
@[simp] theorem cleans_nil : Wl.cleans [] = true := by simp [Wl.cleans]
@[simp] theorem cleans_cons {d : PyData} {ds : List PyData} : Wl.cleans (d :: ds) = (Wl.clean d && Wl.cleans ds) := by simp [Wl.cleans]
theorem cleans_iff {ds : List PyData} : Wl.cleans ds = true ↔ ∀ d ∈ ds, Wl.clean d = true := by
  induction ds with
  | nil => simp
  | cons d ds ih => simp [ih]
class RE (K : PySem.W.Frag) (XX : XP) (te : TE) (w : outParam WE) : Prop where
  run : ∀ {N : Addr → Prop} {σ : L2.St} {H : Hp} {ρ : Ev'} {h : Lh} {P : Wv} {Q : VK}, Sx K XX N H h → En K N H h σ ρ → w ρ h P → Ko K XX N H h P Q → te σ H Q
class RA (K : PySem.W.Frag) (XX : XP) (te : TA) (w : outParam WA) : Prop where
  run : ∀ {N : Addr → Prop} {σ : L2.St} {H : Hp} {ρ : Ev'} {h : Lh} {P : List PyData → Lh → Prop} {Q : List V → Hp → Prop}, Sx K XX N H h → En K N H h σ ρ → w ρ h P → KoA K XX N H h P Q → te σ H Q
class RT (K : PySem.W.Frag) (XX : XP) (te : TT) (w : outParam WT) : Prop where
  run : ∀ {N : Addr → Prop} {σ : L2.St} {H : Hp} {ρ : Ev'} {h : Lh} {P : Bool → Lh → Prop} {Q : Bool → Hp → Prop}, Sx K XX N H h → En K N H h σ ρ → w ρ h P → KoT K XX N H h P Q → te σ H Q
class RO (K : PySem.W.Frag) (XX : XP) (te : TO) (w : outParam WO) : Prop where
  run : ∀ {N : Addr → Prop} {σ : L2.St} {H : Hp} {ρ : Ev'} {h : Lh} {P : Option Int → Lh → Prop} {Q : Option Int → Hp → Prop}, Sx K XX N H h → En K N H h σ ρ → w ρ h P → KoO K XX N H h P Q → te σ H Q
class RN (K : PySem.W.Frag) (XX : XP) (te : TE) (w : outParam WA) : Prop where
  run : ∀ {N : Addr → Prop} {σ : L2.St} {H : Hp} {ρ : Ev'} {h : Lh} {P : List PyData → Lh → Prop} {Q : VK}, Sx K XX N H h → En K N H h σ ρ → w ρ h P → KoN K XX N H h P Q → te σ H Q
class R2W (K : PySem.W.Frag) (r : R2) (f : outParam (PyData → PyData → Lh → Wv → Prop)) : Prop where
  run : ∀ {XX : XP} {N : Addr → Prop} {H : Hp} {h : Lh} {x y : V} {d e : PyData} {P : Wv} {Q : VK}, Sx K XX N H h → Rl K N H h x d → Rl K N H h y e → f d e h P → Ko K XX N H h P Q → r x y H Q
class R1W (K : PySem.W.Frag) (r : V → Hp → VK → Prop) (f : outParam (PyData → Lh → Wv → Prop)) : Prop where
  run : ∀ {XX : XP} {N : Addr → Prop} {H : Hp} {h : Lh} {x : V} {d : PyData} {P : Wv} {Q : VK}, Sx K XX N H h → Rl K N H h x d → f d h P → Ko K XX N H h P Q → r x H Q
/-- a built-in's call -/
class RCW (K : PySem.W.Frag) (r : List V → Hp → VK → Prop) (f : outParam (List PyData → Lh → Wv → Prop)) : Prop where
  run : ∀ {XX : XP} {N : Addr → Prop} {H : Hp} {h : Lh} {xs : List V} {ds : List PyData} {P : Wv} {Q : VK}, Sx K XX N H h → Rls K N H h xs ds → f ds h P → Ko K XX N H h P Q → r xs H Q
/-- .. that makes a new list -/
class RCN (K : PySem.W.Frag) (r : List V → Hp → VK → Prop) (f : outParam (List PyData → Lh → (List PyData → Lh → Prop) → Prop)) : Prop where
  run : ∀ {XX : XP} {N : Addr → Prop} {H : Hp} {h : Lh} {xs : List V} {ds : List PyData} {P : List PyData → Lh → Prop} {Q : VK}, Sx K XX N H h → Rls K N H h xs ds → f ds h P → KoN K XX N H h P Q → r xs H Q
class R2N (K : PySem.W.Frag) (r : R2) (f : outParam (PyData → PyData → Lh → (List PyData → Lh → Prop) → Prop)) : Prop where
  run : ∀ {XX : XP} {N : Addr → Prop} {H : Hp} {h : Lh} {x y : V} {d e : PyData} {P : List PyData → Lh → Prop} {Q : VK}, Sx K XX N H h → Rl K N H h x d → Rl K N H h y e → f d e h P → KoN K XX N H h P Q → r x y H Q
section
variable {K : PySem.W.Frag} {XX : XP} {N : Addr → Prop} {H H' : Hp} {h h' : Lh} {P : Wv} {Q : VK} {v : V} {d : PyData}
theorem Ko.tr (t : Tr H h H' h') (k : Ko K XX N H h P Q) : Ko K XX N H' h' P Q := fun v d H2 h2 t2 S r p => k v d H2 h2 (t.trans t2) S r p
theorem KoA.tr {P : List PyData → Lh → Prop} {Q : List V → Hp → Prop} (t : Tr H h H' h') (k : KoA K XX N H h P Q) : KoA K XX N H' h' P Q := fun v d H2 h2 t2 S r p => k v d H2 h2 (t.trans t2) S r p
theorem KoT.tr {P : Bool → Lh → Prop} {Q : Bool → Hp → Prop} (t : Tr H h H' h') (k : KoT K XX N H h P Q) : KoT K XX N H' h' P Q := fun b H2 h2 t2 S p => k b H2 h2 (t.trans t2) S p
theorem KoO.tr {P : Option Int → Lh → Prop} {Q : Option Int → Hp → Prop} (t : Tr H h H' h') (k : KoO K XX N H h P Q) : KoO K XX N H' h' P Q := fun b H2 h2 t2 S p => k b H2 h2 (t.trans t2) S p
theorem KoN.tr {P : List PyData → Lh → Prop} (t : Tr H h H' h') (k : KoN K XX N H h P Q) : KoN K XX N H' h' P Q := fun p xs ds H2 h2 n t2 S e r q => k p xs ds H2 h2 (t.n p n) (t.trans t2) S e r q
theorem Ko.at {K : PySem.W.Frag} (k : Ko K XX N H h P Q) (S : Sx K XX N H h) (r : Rl K N H h v d) (p : P d h) : Q v H := k v d H h (Tr.refl H h) S r p
theorem Ko.w {P' : Wv} (k : Ko K XX N H h P Q) (f : ∀ d h', P' d h' → P d h') : Ko K XX N H h P' Q := fun v d H' h' t S r p => k v d H' h' t S r (f _ _ p)
/-- a new tuple -/
theorem Ko.tup {p : Addr} {xs : List V} {ds : List PyData} (k : Ko K XX N H h P Q) (S : Sx K XX N H h) (hp : H p = none) (r : Rls K N H h xs ds) (q : P (.tuple ds) h) : Q (.ref p) (L2.upd H p (.tup xs)) :=
  k _ _ _ h (Tr.new hp) (S.new hp) (.tup (.inl ⟨upd_same, S.hn hp, S.nn hp⟩) (r.tr (Tr.new hp))) q
theorem Sim.more {p : Addr} (S : Sim K N H h) (hp : H p = none) {u : HO} (nt : ∀ xs, u ≠ .tup xs := by intro _ z; cases z) : Sim K (fun a => N a ∨ a = p) (L2.upd H p u) h := by
  have S' := S.new (v := u) hp
  have f : ∀ a, (N a ∨ a = p) → N a ∨ H a = none := fun a z => z.imp id fun e => by rw [e]; exact hp
  refine ⟨fun a o q => ?_, fun a z => ?_⟩
  · obtain ⟨n, u', e, k⟩ := S.at_ a o q
    have ne : a ≠ p := fun z => by rw [z, hp] at e; cases e
    refine ⟨fun z => z.elim n ne, u', by rw [upd_ne ne]; exact e, ?_⟩
    have f2 : ∀ a, (N a ∨ a = p) → N a ∨ H a = none := f
    exact (k.mono (fun v d r => Rl.hid f2 r) (fun v d r => Rls.hid f2 r)).tr (Tr.new hp)
  · rcases z with z | z
    · exact S'.hid a z
    · subst z; exact ⟨u, upd_same, nt⟩
theorem Sx.more {p : Addr} (S : Sx K XX N H h) (hp : H p = none) {u : HO} (nt : ∀ xs, u ≠ .tup xs := by intro _ z; cases z) : Sx K XX (fun a => N a ∨ a = p) (L2.upd H p u) h := ⟨S.toSim.more hp nt, (S.x.tr (Tr.new hp)).hid fun a z => .inl z⟩
theorem Rls.more {p : Addr} {xs : List V} {ds : List PyData} {u : HO} (r : Rls K N H h xs ds) (hp : H p = none) : Rls K (fun a => N a ∨ a = p) (L2.upd H p u) h xs ds :=
  (Rls.hid (N' := fun a => N a ∨ a = p) (fun a z => z.imp id fun e => by rw [e]; exact hp) r).tr (Tr.new hp)
theorem KoN.new {p : Addr} {xs : List V} {ds : List PyData} {P : List PyData → Lh → Prop} (k : KoN K XX N H h P Q) (S : Sx K XX N H h) (hp : H p = none) (r : Rls K N H h xs ds) (q : P ds h) : Q (.ref p) (L2.upd H p (.lst xs)) :=
  k p xs ds _ h hp (Tr.new hp) (S.more hp) upd_same (r.more hp) q
/-- the new list: data -/
theorem Ko.lst {P : Wv} (k : Ko K XX N H h P Q) (S : Sx K XX N H h) : KoN K XX N H h (fun ds h' => P (.list ds) h') Q := fun p xs ds H' h' n t S' e r q => by
  have f : ∀ a, N a → (N a ∨ a = p) ∨ H' a = none := fun a z => .inl (.inl z)
  have np : ¬ N p := S.nn n
  have hp' : h' p = none := by
    cases z : h' p with
    | none => rfl
    | some o => exact absurd (.inr rfl) (S'.at_ p o z).1
  exact k _ _ H' h' t (S.to t (S'.toSim.less fun a z => .inl z)) (.lst ⟨e, hp', np⟩ (r.hid f)) q
/-- the new list: mutable -/
theorem Ko.ref {P : Wv} (k : Ko K XX N H h P Q) (S : Sx K XX N H h) : KoN K XX N H h (fun ds h' => ∀ p, h p = none → h' p = none → P (rf p) (up h' p (.lst ds))) Q := fun p xs ds H' h' n t S' e r q => by
  have np : ¬ N p := S.nn n
  have hp' : h' p = none := by
    cases z : h' p with
    | none => rfl
    | some o => exact absurd (.inr rfl) (S'.at_ p o z).1
  have f : ∀ a o, H' a = some o → h' a = none → ¬ (N a ∨ a = p) → H' a = some o ∧ up h' p (.lst ds) a = none ∧ ¬ N a := fun a o e1 e2 e3 => by
    have ne : a ≠ p := fun z => e3 (.inr z)
    exact ⟨e1, by rw [up_ne ne]; exact e2, fun z => e3 (.inl z)⟩
  have t2 : Tr H h H' (up h' p (.lst ds)) := ⟨fun a o e1 e2 => by
    have ne : a ≠ p := fun z => by rw [z, n] at e1; cases e1
    exact ⟨(t.k a o e1 e2).1, by rw [up_ne ne]; exact (t.k a o e1 e2).2⟩, t.n⟩
  refine k _ _ H' (up h' p (.lst ds)) t2 (S.to t2 ⟨fun a o q => ?_, fun a z => S'.hid a (.inl z)⟩) (.rf p) (q p (S.hn n) hp')
  by_cases c : a = p
  · subst c
    rw [up_same] at q
    cases q
    exact ⟨np, _, e, .lst (r.trN f)⟩
  · rw [up_ne c] at q
    obtain ⟨n', u', e', k'⟩ := S'.at_ a o q
    exact ⟨fun z => n' (.inl z), u', e', k'.mono (fun v d => Rl.trN f) (fun v d => Rls.trN f)⟩
/-- what is read as a list -/
def lv (h : Lh) : PyData → Option (List PyData)
  | .list ds => some ds
  | .dict [(.int i, .none)] => match h i.toNat with
    | some (.lst ds) => some ds
    | _ => none
  | .dict [(.none, .tuple ds)] => some ds
  | _ => none
/-- the script -/
def isSc : PyData → Bool
  | .dict [(.none, _)] => true
  | _ => false
@[simp] theorem isSc_list {ds : List PyData} : isSc (.list ds) = false := rfl
@[simp] theorem isSc_rf {i : Int} : isSc (.dict [(.int i, .none)]) = false := rfl
@[simp] theorem lv_sc {h : Lh} {ds : List PyData} : Wl.lv h (.dict [(.none, .tuple ds)]) = some ds := rfl
@[simp] theorem lv_list {h : Lh} {ds : List PyData} : Wl.lv h (.list ds) = some ds := rfl
@[simp] theorem lv_tup {h : Lh} {ds : List PyData} : Wl.lv h (.tuple ds) = Option.none := rfl
@[simp] theorem lv_int {h : Lh} {i : Int} : Wl.lv h (.int i) = Option.none := rfl
@[simp] theorem lv_str {h : Lh} {i : Str} : Wl.lv h (.str i) = Option.none := rfl
@[simp] theorem lv_bool {h : Lh} {i : Bool} : Wl.lv h (.bool i) = Option.none := rfl
@[simp] theorem lv_none {h : Lh} : Wl.lv h .none = Option.none := rfl
@[simp] theorem lv_rf {h : Lh} {p : Addr} : Wl.lv h (.dict [(.int ((p : Nat) : Int), .none)]) = match h p with | some (.lst ds) => some ds | _ => Option.none := by simp only [Wl.lv, Int.toNat_natCast]
theorem Rl.lvo {ds : List PyData} (S : Sx K XX N H h) (r : Rl K N H h v d) (e : Wl.lv h d = some ds) (c : isSc d = false) : ∃ a xs, v = .ref a ∧ H a = some (.lst xs) ∧ Rls K N H h xs ds := by
  cases r with
  | lst a b => cases e; exact ⟨_, _, rfl, a.1, b⟩
  | rf a =>
    simp only [Wl.lv, Int.toNat_natCast] at e
    cases q : h a with
    | none => rw [q] at e; cases e
    | some o =>
      obtain ⟨n, u, z, k⟩ := S.at_ a o q
      cases k with
      | lst k => rw [q] at e; cases e; exact ⟨a, _, rfl, z, k⟩
      | _ => rw [q] at e; cases e
  | scr ns _ => cases c
  | _ => cases e
theorem Rls.ints : ∀ ns : List Int, Rls K N H h (ns.map V.int) (ns.map PyData.int)
  | [] => .nil
  | n :: ns => .cons (.int n) (Rls.ints ns)
theorem Rl.lv {ds : List PyData} (S : Sx K XX N H h) (r : Rl K N H h v d) (e : Wl.lv h d = some ds) : ∃ a xs, v = .ref a ∧ SqL K H a xs ∧ Rls K N H h xs ds := by
  cases c : isSc d with
  | false =>
    obtain ⟨a, xs, e1, e2, e3⟩ := r.lvo S e c
    exact ⟨a, xs, e1, SqL.of e2, e3⟩
  | true =>
    cases r with
    | scr ns q =>
      cases e
      refine ⟨_, _, rfl, ?_, Rls.ints ns⟩
      rcases q with q | q
      · exact .inl q.1
      · exact .inr q
    | rf a => cases c
    | lst _ _ => cases c
    | _ => cases e
theorem Rl.lvH {ds : List PyData} {a : Addr} (S : Sx K XX N H h) (e : h a = some (.lst ds)) : ∃ xs, H a = some (.lst xs) ∧ Rls K N H h xs ds := by
  obtain ⟨n, u, z, k⟩ := S.at_ a _ e
  cases k with
  | lst k => exact ⟨_, z, k⟩
theorem Rl.insH {fs : List (Str × PyData)} {a C : Addr} (S : Sx K XX N H h) (e : h a = some (.ins C fs)) : ∃ dx xs, H a = some (.ins C dx xs) ∧ Paired (fun (p : Str × V) (q : Str × PyData) => p.1 = q.1 ∧ Rl K N H h p.2 q.2) xs fs := by
  obtain ⟨n, u, z, k⟩ := S.at_ a _ e
  cases k with
  | ins k => exact ⟨_, _, z, k⟩
theorem Paired.lookup {f : Str} : ∀ {xs : List (Str × V)} {fs : List (Str × PyData)}, Paired (fun (p : Str × V) (q : Str × PyData) => p.1 = q.1 ∧ Rl K N H h p.2 q.2) xs fs →
    (fs.lookup f = none → xs.lookup f = none) ∧ ∀ d, fs.lookup f = some d → ∃ v, xs.lookup f = some v ∧ Rl K N H h v d
  | _, _, .nil => ⟨fun _ => rfl, fun d e => by cases e⟩
  | (k, v) :: xs, (k', d') :: fs, .cons a b => by
    obtain ⟨a1, a2⟩ := a
    cases a1
    have ih := Paired.lookup (f := f) b
    by_cases c : f == k
    · refine ⟨fun e => ?_, fun d e => ?_⟩
      · simp [List.lookup, c] at e
      · simp [List.lookup, c] at e
        subst e
        exact ⟨v, by simp [List.lookup, c], a2⟩
    · simp only [Bool.not_eq_true] at c
      refine ⟨fun e => ?_, fun d e => ?_⟩
      · simp only [List.lookup, c] at e ⊢
        exact ih.1 e
      · simp only [List.lookup, c] at e ⊢
        exact ih.2 d e
end
/-! ### names, constants -/
@[simp] def wVar (i : Nat) : WE := fun ρ h P => ∃ d, ρ[i]? = some (some d) ∧ P d h
@[simp] def wC (d : PyData) : WE := fun _ h P => P d h
/-- a constant of the text -/
class KD (K : PySem.W.Frag) (a : Addr) (d : outParam PyData) : Prop where
  is : ∀ N H h, Rl K N H h (.ref a) d
section
variable {K : PySem.W.Frag} {XX : XP}
instance (i : Nat) : RE K XX (tVar i) (wVar i) := ⟨fun S E ⟨d, e, p⟩ k => by
  obtain ⟨v, a, r⟩ := E.2 i d e
  exact ⟨v, a, k.at S r p⟩⟩
instance : RE K XX (tC .non) (wC .none) := ⟨fun S E p k => k.at S .non p⟩
instance (b : Bool) : RE K XX (tC (.bl b)) (wC (.bool b)) := ⟨fun S E p k => k.at S (.bl b) p⟩
instance (b : Int) : RE K XX (tC (.int b)) (wC (.int b)) := ⟨fun S E p k => k.at S (.int b) p⟩
instance (b : Str) : RE K XX (tC (.str b)) (wC (.str b)) := ⟨fun S E p k => k.at S (.str b) p⟩
instance (a : Addr) (d : PyData) [c : KD K a d] : RE K XX (tC (.ref a)) (wC d) := ⟨fun S E p k => k.at S (c.is _ _ _) p⟩
/-! ### arguments, displays -/
@[simp] def wNil : WA := fun _ h P => P [] h
@[simp] def wCons (a : WE) (b : WA) : WA := fun ρ h P => a ρ h fun d h1 => b ρ h1 fun ds h2 => P (d :: ds) h2
instance : RA K XX tNil wNil := ⟨fun S E p k => k _ _ _ _ (Tr.refl _ _) S .nil p⟩
instance {ta : TE} {tb : TA} {a : WE} {b : WA} [A : RE K XX ta a] [B : RA K XX tb b] : RA K XX (tCons ta tb) (wCons a b) := ⟨fun S E p k =>
  A.run S E p fun v d H1 h1 t1 S1 r1 p1 => B.run S1 (E.tr t1) p1 fun vs ds H2 h2 t2 S2 r2 p2 => k _ _ _ _ (t1.trans t2) S2 (.cons (r1.tr t2) r2) p2⟩
@[simp] def wTup (a : WA) : WE := fun ρ h P => a ρ h fun ds h1 => ds.length ≤ 100000 ∧ P (.tuple ds) h1
instance {ta : TA} {a : WA} [A : RA K XX ta a] : RE K XX (tTup ta) (wTup a) := ⟨fun S E p k =>
  A.run S E p fun vs ds H1 h1 t1 S1 r1 p1 => ⟨sz_of (by rw [r1.length]; exact p1.1), fun p hp => (k.tr t1).tup S1 hp r1 p1.2⟩⟩
@[simp] def wLst (a : WA) : WA := fun ρ h P => a ρ h fun ds h1 => ds.length ≤ 100000 ∧ P ds h1
instance {ta : TA} {a : WA} [A : RA K XX ta a] : RN K XX (tLst ta) (wLst a) := ⟨fun S E p k =>
  A.run S E p fun vs ds H1 h1 t1 S1 r1 p1 => ⟨sz_of (by rw [r1.length]; exact p1.1), fun p hp => (k.tr t1).new S1 hp r1 p1.2⟩⟩
/-- a new list, as data -/
@[simp] def wDat (a : WA) : WE := fun ρ h P => a ρ h fun ds h1 => P (.list ds) h1
instance (priority := low) {te : TE} {a : WA} [A : RN K XX te a] : RE K XX te (wDat a) := ⟨fun S E p k => A.run S E p (k.lst S)⟩
/-- .. that will change -/
def tRef (te : TE) : TE := te
@[simp] def wRef (a : WA) : WE := fun ρ h P => a ρ h fun ds h1 => ∀ p, h p = none → h1 p = none → P (rf p) (up h1 p (.lst ds))
instance {te : TE} {a : WA} [A : RN K XX te a] : RE K XX (tRef te) (wRef a) := ⟨fun S E p k => A.run (te := te) S E p (k.ref S)⟩
theorem pe_ref {X : Cx} {e : Expr} {te : TE} (h : PE X e te) : PE X e (tRef te) := h
/-! ### operators -/
@[simp] def wOp (f : PyData → PyData → Lh → Wv → Prop) (a b : WE) : WE := fun ρ h P => a ρ h fun d h1 => b ρ h1 fun e h2 => f d e h2 P
instance {r : R2} {f : PyData → PyData → Lh → Wv → Prop} {ta tb : TE} {a b : WE} [A : RE K XX ta a] [B : RE K XX tb b] [R : R2W K r f] : RE K XX (tOp r ta tb) (wOp f a b) := ⟨fun S E p k =>
  A.run S E p fun v d H1 h1 t1 S1 r1 p1 => B.run S1 (E.tr t1) p1 fun w e H2 h2 t2 S2 r2 p2 => R.run S2 (r1.tr t2) r2 p2 (k.tr (t1.trans t2))⟩
@[simp] def wOpN (f : PyData → PyData → Lh → (List PyData → Lh → Prop) → Prop) (a b : WE) : WA := fun ρ h P => a ρ h fun d h1 => b ρ h1 fun e h2 => f d e h2 P
instance {r : R2} {f : PyData → PyData → Lh → (List PyData → Lh → Prop) → Prop} {ta tb : TE} {a b : WE} [A : RE K XX ta a] [B : RE K XX tb b] [R : R2N K r f] : RN K XX (tOp r ta tb) (wOpN f a b) := ⟨fun S E p k =>
  A.run S E p fun v d H1 h1 t1 S1 r1 p1 => B.run S1 (E.tr t1) p1 fun w e H2 h2 t2 S2 r2 p2 => R.run S2 (r1.tr t2) r2 p2 (k.tr (t1.trans t2))⟩
@[simp] def wUn (f : PyData → Lh → Wv → Prop) (a : WE) : WE := fun ρ h P => a ρ h fun d h1 => f d h1 P
instance {r : V → Hp → VK → Prop} {f : PyData → Lh → Wv → Prop} {ta : TE} {a : WE} [A : RE K XX ta a] [R : R1W K r f] : RE K XX (tUn r ta) (wUn f a) := ⟨fun S E p k =>
  A.run S E p fun v d H1 h1 t1 S1 r1 p1 => R.run S1 r1 p1 (k.tr t1)⟩
@[simp] def fII (g : Int → Int → Int) (d e : PyData) (h : Lh) (P : Wv) : Prop := ∃ i j, d = .int i ∧ e = .int j ∧ P (.int (g i j)) h
instance (g : Int → Int → Int) : R2W K (rI0 fun i j => V.int (g i j)) (fII g) := ⟨fun S a b ⟨i, j, e1, e2, p⟩ k => by
  subst e1; subst e2; exact ⟨i, j, a.i, b.i, k.at S (.int _) p⟩⟩
@[simp] def fIB (g : Int → Int → Bool) (d e : PyData) (h : Lh) (P : Wv) : Prop := ∃ i j, d = .int i ∧ e = .int j ∧ P (.bool (g i j)) h
instance (g : Int → Int → Bool) : R2W K (rI0 fun i j => V.bl (g i j)) (fIB g) := ⟨fun S a b ⟨i, j, e1, e2, p⟩ k => by
  subst e1; subst e2; exact ⟨i, j, a.i, b.i, k.at S (.bl _) p⟩⟩
@[simp] def fIC (C : Int → Int → Prop) (g : Int → Int → Int) (d e : PyData) (h : Lh) (P : Wv) : Prop := ∃ i j, d = .int i ∧ e = .int j ∧ C i j ∧ P (.int (g i j)) h
instance (C : Int → Int → Prop) (g : Int → Int → Int) : R2W K (rI C fun i j => V.int (g i j)) (fIC C g) := ⟨fun S a b ⟨i, j, e1, e2, c, p⟩ k => by
  subst e1; subst e2; exact ⟨i, j, a.i, b.i, c, k.at S (.int _) p⟩⟩
/-- == of scalars of one kind, or None -/
def scD : PyData → PyData → Option Bool
  | .none, .none => some true
  | .none, .int _ => some false | .int _, .none => some false
  | .none, .bool _ => some false | .bool _, .none => some false
  | .none, .str _ => some false | .str _, .none => some false
  | .int i, .int j => some (decide (i = j))
  | .bool i, .bool j => some (decide (i = j))
  | .str i, .str j => some (decide (i = j))
  | .int _, .str _ => some false | .str _, .int _ => some false
  | .bool _, .str _ => some false | .str _, .bool _ => some false
  | _, _ => none
@[simp] theorem scD_none_none : Wl.scD .none .none = some true := rfl
@[simp] theorem scD_none_bool {b : Bool} : Wl.scD .none (.bool b) = some false := rfl
@[simp] theorem scD_none_int {b : Int} : Wl.scD .none (.int b) = some false := rfl
@[simp] theorem scD_none_str {b : Str} : Wl.scD .none (.str b) = some false := rfl
@[simp] theorem scD_bool_none {a : Bool} : Wl.scD (.bool a) .none = some false := rfl
@[simp] theorem scD_bool_bool {a : Bool} {b : Bool} : Wl.scD (.bool a) (.bool b) = some (decide (a = b)) := rfl
@[simp] theorem scD_bool_str {a : Bool} {b : Str} : Wl.scD (.bool a) (.str b) = some false := rfl
@[simp] theorem scD_int_none {a : Int} : Wl.scD (.int a) .none = some false := rfl
@[simp] theorem scD_int_int {a : Int} {b : Int} : Wl.scD (.int a) (.int b) = some (decide (a = b)) := rfl
@[simp] theorem scD_int_str {a : Int} {b : Str} : Wl.scD (.int a) (.str b) = some false := rfl
@[simp] theorem scD_str_none {a : Str} : Wl.scD (.str a) .none = some false := rfl
@[simp] theorem scD_str_bool {a : Str} {b : Bool} : Wl.scD (.str a) (.bool b) = some false := rfl
@[simp] theorem scD_str_int {a : Str} {b : Int} : Wl.scD (.str a) (.int b) = some false := rfl
@[simp] theorem scD_str_str {a : Str} {b : Str} : Wl.scD (.str a) (.str b) = some (decide (a = b)) := rfl
theorem scD_ok {N : Addr → Prop} {H : Hp} {h : Lh} {x y : V} {d e : PyData} {b : Bool} (a : Rl K N H h x d) (c : Rl K N H h y e) (q : scD d e = some b) : scal x y = true ∧ decide (x = y) = b := by
  cases a <;> cases c <;> simp_all [scD, scal]
def onB : Option Bool → (Bool → Prop) → Prop
  | some b, k => k b
  | none, _ => False
@[simp] theorem onB_some {b : Bool} {k : Bool → Prop} : onB (some b) k = k b := rfl
@[simp] theorem onB_none {k : Bool → Prop} : onB none k = False := rfl
theorem onB_ex {o : Option Bool} {k : Bool → Prop} (h : onB o k) : ∃ b, o = some b ∧ k b := by
  cases o with
  | none => exact h.elim
  | some b => exact ⟨b, rfl, h⟩
@[simp] def fEq (d e : PyData) (h : Lh) (P : Wv) : Prop := onB (scD d e) fun b => P (.bool b) h
@[simp] def fNe (d e : PyData) (h : Lh) (P : Wv) : Prop := onB (scD d e) fun b => P (.bool (!b)) h
instance : R2W K rEq fEq := ⟨fun S a c z k => by
  obtain ⟨b, e, p⟩ := onB_ex z
  obtain ⟨q1, q2⟩ := scD_ok a c e
  exact ⟨q1, by rw [q2]; exact k.at S (.bl _) p⟩⟩
instance : R2W K rNe fNe := ⟨fun S a c z k => by
  obtain ⟨b, e, p⟩ := onB_ex z
  obtain ⟨q1, q2⟩ := scD_ok a c e
  exact ⟨q1, by rw [q2]; exact k.at S (.bl _) p⟩⟩
@[simp] theorem shaped_none : SeqAt.shaped .none = true := by decide
@[simp] theorem shaped_int {i : Int} : SeqAt.shaped (.int i) = true := by simp [SeqAt.shaped, PyData.canLay0, PyData.depth]
@[simp] theorem shaped_bool {i : Bool} : SeqAt.shaped (.bool i) = true := by simp [SeqAt.shaped, PyData.canLay0, PyData.depth]
@[simp] theorem shaped_nilT : SeqAt.shaped (.tuple []) = true := Pd.shaped_nil
@[simp] theorem shaped_nilL : SeqAt.shaped (.list []) = true := by decide
@[simp] theorem eqv_nilT {ds : List PyData} : PyData.eqv (.tuple ds) (.tuple []) = ds.isEmpty := Pd.eqv_nil ds
/-- == of data; a list that may change as it is now -/
def snap (h : Lh) (d : PyData) : PyData := match lv h d with
  | some ds => .list ds
  | none => d
@[simp] theorem snap_none  {h : Lh} : Wl.snap h .none = .none := rfl
@[simp] theorem snap_bool {b : Bool} {h : Lh} : Wl.snap h (.bool b) = (.bool b) := rfl
@[simp] theorem snap_int {i : Int} {h : Lh} : Wl.snap h (.int i) = (.int i) := rfl
@[simp] theorem snap_str {s : Str} {h : Lh} : Wl.snap h (.str s) = (.str s) := rfl
@[simp] theorem snap_list {l : List PyData} {h : Lh} : Wl.snap h (.list l) = (.list l) := rfl
@[simp] theorem snap_tup {l : List PyData} {h : Lh} : Wl.snap h (.tuple l) = (.tuple l) := rfl
@[simp] theorem snap_rf {h : Lh} {p : Addr} : Wl.snap h (.dict [(.int ((p : Nat) : Int), .none)]) = match h p with | some (.lst ds) => .list ds | _ => .dict [(.int ((p : Nat) : Int), .none)] := by
  simp only [Wl.snap, lv_rf]
  cases h p with
  | none => rfl
  | some o => cases o <;> rfl
theorem Rl.snap {N : Addr → Prop} {H : Hp} {h : Lh} {x : V} {d : PyData} (S : Sx K XX N H h) (r : Rl K N H h x d) (p : clean (Wl.snap h d) = true) : Dp K H x (Wl.snap h d) := by
  unfold Wl.snap at p ⊢
  cases e : Wl.lv h d with
  | none => rw [e] at p; exact r.dp p
  | some ds =>
    obtain ⟨a, xs, rfl, q, rs⟩ := r.lv S e
    rw [e] at p
    exact .lst q (rs.dp p)
@[simp] def fEqD (d e : PyData) (h : Lh) (P : Wv) : Prop := clean (snap h d) = true ∧ clean (snap h e) = true ∧ SeqAt.shaped (snap h d) = true ∧ SeqAt.shaped (snap h e) = true ∧ P (.bool (PyData.eqv (snap h d) (snap h e))) h
@[simp] def fNeD (d e : PyData) (h : Lh) (P : Wv) : Prop := clean (snap h d) = true ∧ clean (snap h e) = true ∧ SeqAt.shaped (snap h d) = true ∧ SeqAt.shaped (snap h e) = true ∧ P (.bool (!PyData.eqv (snap h d) (snap h e))) h
instance : R2W K (rEqD K) fEqD := ⟨fun S a c ⟨p1, p2, s1, s2, p⟩ k => ⟨_, _, a.snap S p1, c.snap S p2, s1, s2, k.at S (.bl _) p⟩⟩
instance : R2W K (rNeD K) fNeD := ⟨fun S a c ⟨p1, p2, s1, s2, p⟩ k => ⟨_, _, a.snap S p1, c.snap S p2, s1, s2, k.at S (.bl _) p⟩⟩
def isN : PyData → Bool
  | .none => true
  | _ => false
@[simp] theorem isN_none  : Wl.isN .none = true := rfl
@[simp] theorem isN_bool {b : Bool} : Wl.isN (.bool b) = false := rfl
@[simp] theorem isN_int {i : Int} : Wl.isN (.int i) = false := rfl
@[simp] theorem isN_str {s : Str} : Wl.isN (.str s) = false := rfl
@[simp] theorem isN_list {l : List PyData} : Wl.isN (.list l) = false := rfl
@[simp] theorem isN_tup {l : List PyData} : Wl.isN (.tuple l) = false := rfl
@[simp] theorem isN_dict {k : List (PyData × PyData)} : Wl.isN (.dict k) = false := rfl
theorem Rl.isN {N : Addr → Prop} {H : Hp} {h : Lh} {x : V} {d : PyData} (a : Rl K N H h x d) : decide (x = .non) = isN d := by cases a <;> rfl
@[simp] def fIs (d e : PyData) (h : Lh) (P : Wv) : Prop := e = .none ∧ P (.bool (isN d)) h
@[simp] def fIsNt (d e : PyData) (h : Lh) (P : Wv) : Prop := e = .none ∧ P (.bool (!isN d)) h
instance : R2W K (fun x y H Q => y = .non ∧ Q (.bl (decide (x = .non))) H) fIs := ⟨fun S a c ⟨e, p⟩ k => by
  subst e; refine ⟨c.n, ?_⟩; rw [a.isN]; exact k.at S (.bl _) p⟩
instance : R2W K (fun x y H Q => y = .non ∧ Q (.bl (!decide (x = .non))) H) fIsNt := ⟨fun S a c ⟨e, p⟩ k => by
  subst e; refine ⟨c.n, ?_⟩; rw [a.isN]; exact k.at S (.bl _) p⟩
/-! texts -/
@[simp] def fSS (g : Str → Str → Bool) (d e : PyData) (h : Lh) (P : Wv) : Prop := ∃ i j, d = .str i ∧ e = .str j ∧ P (.bool (g i j)) h
instance : R2W K (fun x y H Q => ∃ i j, x = .str i ∧ y = .str j ∧ Q (.bl (decide (i.cps.toList < j.cps.toList))) H) (fSS fun i j => decide (i.cps.toList < j.cps.toList)) := ⟨fun S a c ⟨i, j, e1, e2, p⟩ k => by
  subst e1; subst e2; exact ⟨i, j, a.s, c.s, k.at S (.bl _) p⟩⟩
instance : R2W K (fun x y H Q => ∃ i j, x = .str i ∧ y = .str j ∧ Q (.bl (decide (j.cps.toList < i.cps.toList))) H) (fSS fun i j => decide (j.cps.toList < i.cps.toList)) := ⟨fun S a c ⟨i, j, e1, e2, p⟩ k => by
  subst e1; subst e2; exact ⟨i, j, a.s, c.s, k.at S (.bl _) p⟩⟩
instance : R2W K (fun x y H Q => ∃ i j, x = .str i ∧ y = .str j ∧ Q (.bl (!decide (i.cps.toList < j.cps.toList))) H) (fSS fun i j => !decide (i.cps.toList < j.cps.toList)) := ⟨fun S a c ⟨i, j, e1, e2, p⟩ k => by
  subst e1; subst e2; exact ⟨i, j, a.s, c.s, k.at S (.bl _) p⟩⟩
@[simp] def fAddS (d e : PyData) (h : Lh) (P : Wv) : Prop := ∃ i j, d = .str i ∧ e = .str j ∧ i.length + j.length ≤ 100000 ∧ P (.str (i ++ j)) h
instance : R2W K (fun x y H Q => ∃ i j, x = .str i ∧ y = .str j ∧ i.length + j.length ≤ sizeLine ∧ Q (.str (i ++ j)) H) fAddS := ⟨fun S a c ⟨i, j, e1, e2, z, p⟩ k => by
  subst e1; subst e2; exact ⟨i, j, a.s, c.s, sz_of z, k.at S (.str _) p⟩⟩
@[simp] def fInS (d e : PyData) (h : Lh) (P : Wv) : Prop := ∃ (c : Nat) (j : Str), d = .str ⟨#[c]⟩ ∧ e = .str j ∧ P (.bool (decide (c ∈ j.cps.toList))) h
instance : R2W K (fun x y H Q => ∃ (c : Nat) (z : Str), x = .str ⟨#[c]⟩ ∧ y = .str z ∧ Q (.bl (decide (c ∈ z.cps.toList))) H) fInS := ⟨fun S a c ⟨i, j, e1, e2, p⟩ k => by
  subst e1; subst e2; exact ⟨i, j, a.s, c.s, k.at S (.bl _) p⟩⟩
/-! in -/
def tv : PyData → Option (List PyData)
  | .tuple ds => some ds
  | _ => none
@[simp] theorem tv_none  : Wl.tv .none = Option.none := rfl
@[simp] theorem tv_bool {b : Bool} : Wl.tv (.bool b) = Option.none := rfl
@[simp] theorem tv_int {i : Int} : Wl.tv (.int i) = Option.none := rfl
@[simp] theorem tv_str {s : Str} : Wl.tv (.str s) = Option.none := rfl
@[simp] theorem tv_list {l : List PyData} : Wl.tv (.list l) = Option.none := rfl
@[simp] theorem tv_tup {l : List PyData} : Wl.tv (.tuple l) = some l := rfl
@[simp] theorem tv_dict {k : List (PyData × PyData)} : Wl.tv (.dict k) = Option.none := rfl
/-- a tuple or a list -/
def qv (h : Lh) (d : PyData) : Option (List PyData) := match tv d with
  | some ds => some ds
  | none => lv h d
@[simp] theorem qv_tup {h : Lh} {l : List PyData} : Wl.qv h (.tuple l) = some l := rfl
@[simp] theorem qv_list {h : Lh} {l : List PyData} : Wl.qv h (.list l) = some l := rfl
@[simp] theorem qv_dict {h : Lh} {k : List (PyData × PyData)} : Wl.qv h (.dict k) = Wl.lv h (.dict k) := rfl
section
variable {N : Addr → Prop} {H : Hp} {h : Lh} {x : V} {d : PyData} {ds : List PyData}
theorem Rl.tv (r : Rl K N H h x d) (e : Wl.tv d = some ds) : ∃ a xs, x = .ref a ∧ SqT K H a xs ∧ Rls K N H h xs ds := by
  unfold Wl.tv at e
  split at e
  · cases e
    obtain ⟨a, xs, e, t, rs⟩ := r.t
    exact ⟨a, xs, e, t.sq, rs⟩
  · cases e
theorem Rl.qv (S : Sx K XX N H h) (r : Rl K N H h x d) (e : Wl.qv h d = some ds) : ∃ a xs, x = .ref a ∧ (SqL K H a xs ∨ SqT K H a xs) ∧ Rls K N H h xs ds := by
  unfold Wl.qv at e
  cases q : Wl.tv d with
  | some es =>
    rw [q] at e; cases e
    obtain ⟨a, xs, e, t, rs⟩ := r.tv q
    exact ⟨a, xs, e, .inr t, rs⟩
  | none =>
    rw [q] at e
    obtain ⟨a, xs, e, t, rs⟩ := r.lv S e
    exact ⟨a, xs, e, .inl t, rs⟩
def flat1 : PyData → Bool
  | .none => true | .bool _ => true | .int _ => true | .str _ => true
  | _ => false
@[simp] theorem flat1_none  : Wl.flat1 .none = true := rfl
@[simp] theorem flat1_bool {b : Bool} : Wl.flat1 (.bool b) = true := rfl
@[simp] theorem flat1_int {i : Int} : Wl.flat1 (.int i) = true := rfl
@[simp] theorem flat1_str {s : Str} : Wl.flat1 (.str s) = true := rfl
@[simp] theorem flat1_list {l : List PyData} : Wl.flat1 (.list l) = false := rfl
@[simp] theorem flat1_tup {l : List PyData} : Wl.flat1 (.tuple l) = false := rfl
@[simp] theorem flat1_dict {k : List (PyData × PyData)} : Wl.flat1 (.dict k) = false := rfl
/-- == of scalars -/
def eq1 : PyData → PyData → Bool
  | .none, .none => true
  | .bool a, .bool b => a == b
  | .bool a, .int b => (if a then 1 else 0) == b
  | .int a, .bool b => a == (if b then 1 else 0)
  | .int a, .int b => a == b
  | .str a, .str b => a == b
  | _, _ => false
@[simp] theorem eq1_none_none : Wl.eq1 .none .none = true := rfl
@[simp] theorem eq1_none_bool {b : Bool} : Wl.eq1 .none (.bool b) = false := rfl
@[simp] theorem eq1_none_int {b : Int} : Wl.eq1 .none (.int b) = false := rfl
@[simp] theorem eq1_none_str {b : Str} : Wl.eq1 .none (.str b) = false := rfl
@[simp] theorem eq1_bool_none {a : Bool} : Wl.eq1 (.bool a) .none = false := rfl
@[simp] theorem eq1_bool_bool {a : Bool} {b : Bool} : Wl.eq1 (.bool a) (.bool b) = (a == b) := rfl
@[simp] theorem eq1_bool_int {a : Bool} {b : Int} : Wl.eq1 (.bool a) (.int b) = ((if a then 1 else 0) == b) := rfl
@[simp] theorem eq1_bool_str {a : Bool} {b : Str} : Wl.eq1 (.bool a) (.str b) = false := rfl
@[simp] theorem eq1_int_none {a : Int} : Wl.eq1 (.int a) .none = false := rfl
@[simp] theorem eq1_int_bool {a : Int} {b : Bool} : Wl.eq1 (.int a) (.bool b) = (a == (if b then 1 else 0)) := rfl
@[simp] theorem eq1_int_int {a : Int} {b : Int} : Wl.eq1 (.int a) (.int b) = decide (b = a) := by
  show (a == b) = decide (b = a)
  by_cases h : a = b
  · subst h; simp
  · simp [h, Ne.symm h]
@[simp] theorem eq1_int_str {a : Int} {b : Str} : Wl.eq1 (.int a) (.str b) = false := rfl
@[simp] theorem eq1_str_none {a : Str} : Wl.eq1 (.str a) .none = false := rfl
@[simp] theorem eq1_str_bool {a : Str} {b : Bool} : Wl.eq1 (.str a) (.bool b) = false := rfl
@[simp] theorem eq1_str_int {a : Str} {b : Int} : Wl.eq1 (.str a) (.int b) = false := rfl
@[simp] theorem eq1_str_str {a : Str} {b : Str} : Wl.eq1 (.str a) (.str b) = decide (b = a) := by
  show (a == b) = decide (b = a)
  by_cases h : a = b
  · subst h; simp
  · simp [h, Ne.symm h]
theorem Rl.flat1 (r : Rl K N H h x d) : flatV x = flat1 d := by cases r <;> rfl
theorem Rl.eq1 {y : V} {e : PyData} (r : Rl K N H h x d) (q : Rl K N H h y e) : eqV x y = eq1 d e := by cases r <;> cases q <;> rfl
theorem Rls.flat1 : ∀ {ds : List PyData} {xs : List V}, Rls K N H h xs ds → xs.all flatV = ds.all Wl.flat1
  | [], _, r => by cases r; rfl
  | d :: ds, _, r => by cases r with | cons a b => rw [List.all_cons, List.all_cons, a.flat1, Rls.flat1 b]
theorem Rls.in1 (r : Rl K N H h x d) : ∀ {ds : List PyData} {xs : List V}, Rls K N H h xs ds → inV x xs = ds.any fun e => Wl.eq1 e d
  | [], _, q => by cases q; rfl
  | e :: ds, _, q => by
    cases q with
    | cons a b =>
      have ih := Rls.in1 r b
      unfold inV at ih ⊢
      rw [List.any_cons, List.any_cons, a.eq1 r, ih]
end
def in1 (d : PyData) (ds : List PyData) : Bool := ds.any fun e => eq1 e d
@[simp] theorem in1_nil {d : PyData} : Wl.in1 d [] = false := rfl
@[simp] theorem in1_cons {d e : PyData} {es : List PyData} : Wl.in1 d (e :: es) = (Wl.eq1 e d || Wl.in1 d es) := rfl
@[simp] theorem in1_strs {u : Str} {ss : List Str} : Wl.in1 (.str u) (ss.map PyData.str) = decide (u ∈ ss) := by
  induction ss with
  | nil => rfl
  | cons a l ih =>
    rw [List.map_cons, in1_cons, ih]
    simp
@[simp] theorem in1_ints {u : Int} {ss : List Int} : Wl.in1 (.int u) (ss.map PyData.int) = decide (u ∈ ss) := by
  induction ss with
  | nil => rfl
  | cons a l ih =>
    rw [List.map_cons, in1_cons, ih]
    simp
@[simp] theorem flat_strs' {ss : List Str} : (ss.map PyData.str).all Wl.flat1 = true := by simp
@[simp] def fIn (neg : Bool) (d e : PyData) (h : Lh) (P : Wv) : Prop := ∃ ds, qv h e = some ds ∧ flat1 d = true ∧ ds.all flat1 = true ∧ P (.bool (if neg then !in1 d ds else in1 d ds)) h
instance (neg : Bool) : R2W K (rIn K neg) (fIn neg) := ⟨fun S a c ⟨ds, e, f1, f2, p⟩ k => by
  obtain ⟨q, xs, rfl, s, rs⟩ := c.qv S e
  refine ⟨q, xs, rfl, s, by rw [a.flat1]; exact f1, by rw [rs.flat1]; exact f2, ?_⟩
  have e1 : inV _ xs = in1 _ ds := Rls.in1 a rs
  rw [e1]
  exact k.at S (.bl _) p⟩
/-! subscripts -/
theorem atI_rl {N : Addr → Prop} {H : Hp} {h : Lh} {xs : List V} {ds : List PyData} {d : PyData} {i : Int} (r : Rls K N H h xs ds) (ha : atI ds i = some d) : ∃ v, atI xs i = some v ∧ Rl K N H h v d := by
  unfold atI at ha ⊢
  rw [r.length]
  cases e : ixN ds.length i with
  | none => rw [e] at ha; cases ha
  | some j =>
    rw [e] at ha
    exact r.getD ha
@[simp] def fIxT (d e : PyData) (h : Lh) (P : Wv) : Prop := ∃ ds i x, tv d = some ds ∧ e = .int i ∧ atI ds i = some x ∧ P x h
instance : R2W K (rIxT K) fIxT := ⟨fun S a c ⟨ds, i, x, e1, e2, e3, p⟩ k => by
  subst e2
  obtain ⟨q, xs, rfl, t, rs⟩ := a.tv e1
  obtain ⟨v, hv, r⟩ := atI_rl rs e3
  exact ⟨q, xs, i, v, rfl, c.i, t, hv, k.at S r p⟩⟩
@[simp] def fIxL (d e : PyData) (h : Lh) (P : Wv) : Prop := ∃ ds i x, lv h d = some ds ∧ e = .int i ∧ atI ds i = some x ∧ P x h
instance : R2W K (rIxL K) fIxL := ⟨fun S a c ⟨ds, i, x, e1, e2, e3, p⟩ k => by
  subst e2
  obtain ⟨q, xs, rfl, t, rs⟩ := a.lv S e1
  obtain ⟨v, hv, r⟩ := atI_rl rs e3
  exact ⟨q, xs, i, v, rfl, c.i, t, hv, k.at S r p⟩⟩
@[simp] def fIxS (d e : PyData) (h : Lh) (P : Wv) : Prop := ∃ z i c, d = .str z ∧ e = .int i ∧ z.length ≤ 100000 ∧ atI z.cps.toList i = some c ∧ P (.str ⟨#[c]⟩) h
instance : R2W K rIxS fIxS := ⟨fun S a c ⟨z, i, x, e1, e2, e3, e4, p⟩ k => by
  subst e1; subst e2
  exact ⟨z, i, x, a.s, c.i, sz_of e3, e4, k.at S (.str _) p⟩⟩
/-! slices -/
@[simp] def wNo : WO := fun _ h P => P none h
@[simp] def wPart (a : WE) : WO := fun ρ h P => a ρ h fun d h1 => ∃ i, d = .int i ∧ P (some i) h1
instance : RO K XX tNoPart wNo := ⟨fun S E p k => k _ _ _ (Tr.refl _ _) S p⟩
instance {ta : TE} {a : WE} [A : RE K XX ta a] : RO K XX (tPart ta) (wPart a) := ⟨fun S E p k => A.run S E p fun v d H1 h1 t1 S1 r1 ⟨i, e, p1⟩ => by
  subst e; exact ⟨i, r1.i, k _ _ _ t1 S1 p1⟩⟩
theorem Rls.cut {N : Addr → Prop} {H : Hp} {h : Lh} {xs : List V} {ds : List PyData} (r : Rls K N H h xs ds) (lo hi : Option Int) : Rls K N H h (cutV xs lo hi) (Pd.cutD ds lo hi) := by
  unfold cutV Pd.cutD
  rw [r.length]
  exact (r.drop _).take _
@[simp] def wSlT (a : WE) (l u : WO) : WE := fun ρ h P => a ρ h fun d h1 => l ρ h1 fun lo h2 => u ρ h2 fun hi h3 => ∃ ds, tv d = some ds ∧ P (.tuple (Pd.cutD ds lo hi)) h3
instance {ta : TE} {tl th : TO} {a : WE} {l u : WO} [A : RE K XX ta a] [L : RO K XX tl l] [U : RO K XX th u] : RE K XX (tSl (rSlA K) ta tl th) (wSlT a l u) := ⟨fun S E p k =>
  A.run S E p fun v d H1 h1 t1 S1 r1 p1 => L.run S1 (E.tr t1) p1 fun lo H2 h2 t2 S2 p2 => U.run S2 (E.tr (t1.trans t2)) p2 fun hi H3 h3 t3 S3 ⟨ds, e, p3⟩ => by
    have r3 := r1.tr (t2.trans t3)
    have t := (t1.trans t2).trans t3
    obtain ⟨q, xs, rfl, tt, rs⟩ : ∃ a xs, v = .ref a ∧ Tu K _ H3 h3 a xs ∧ Rls K _ H3 h3 xs ds := by
      unfold tv at e
      split at e
      · cases e; exact r3.t
      · cases e
    refine ⟨q, xs, rfl, tt.sq, fun z => ?_, fun _ r hr => (k.tr t).tup S3 hr (rs.cut lo hi) p3⟩
    rw [rs.length] at z
    rw [sIx_whole z ds rfl] at p3
    exact (k.tr t).at S3 (.tup tt rs) p3⟩
@[simp] def wSlL (a : WE) (l u : WO) : WA := fun ρ h P => a ρ h fun d h1 => l ρ h1 fun lo h2 => u ρ h2 fun hi h3 => ∃ ds, lv h3 d = some ds ∧ P (Pd.cutD ds lo hi) h3
instance {ta : TE} {tl th : TO} {a : WE} {l u : WO} [A : RE K XX ta a] [L : RO K XX tl l] [U : RO K XX th u] : RN K XX (tSl (rSlL K) ta tl th) (wSlL a l u) := ⟨fun S E p k =>
  A.run S E p fun v d H1 h1 t1 S1 r1 p1 => L.run S1 (E.tr t1) p1 fun lo H2 h2 t2 S2 p2 => U.run S2 (E.tr (t1.trans t2)) p2 fun hi H3 h3 t3 S3 ⟨ds, e, p3⟩ => by
    obtain ⟨q, xs, rfl, tt, rs⟩ := (r1.tr (t2.trans t3)).lv S3 e
    exact ⟨q, xs, rfl, tt, fun r hr => (k.tr ((t1.trans t2).trans t3)).new S3 hr (rs.cut lo hi) p3⟩⟩
@[simp] def wSlS (a : WE) (l u : WO) : WE := fun ρ h P => a ρ h fun d h1 => l ρ h1 fun lo h2 => u ρ h2 fun hi h3 => ∃ z, d = .str z ∧ z.length ≤ 100000 ∧ P (.str (cutS z lo hi)) h3
instance {ta : TE} {tl th : TO} {a : WE} {l u : WO} [A : RE K XX ta a] [L : RO K XX tl l] [U : RO K XX th u] : RE K XX (tSl rSlS ta tl th) (wSlS a l u) := ⟨fun S E p k =>
  A.run S E p fun v d H1 h1 t1 S1 r1 p1 => L.run S1 (E.tr t1) p1 fun lo H2 h2 t2 S2 p2 => U.run S2 (E.tr (t1.trans t2)) p2 fun hi H3 h3 t3 S3 ⟨z, e, e2, p3⟩ => by
    subst e
    exact ⟨z, r1.s, sz_of e2, (k.tr ((t1.trans t2).trans t3)).at S3 (.str _) p3⟩⟩
/-! + and * of lists and tuples -/
@[simp] def fCatT (d e : PyData) (h : Lh) (P : Wv) : Prop := ∃ ds es, tv d = some ds ∧ tv e = some es ∧ ds.length + es.length ≤ 100000 ∧ P (.tuple (ds ++ es)) h
instance : R2W K (rCatA K) fCatT := ⟨fun {XX N H h x y d e P Q} S a c ⟨ds, es, e1, e2, z, p⟩ k => by
  have T : ∀ {v : V} {d : PyData} {ds : List PyData}, Rl K N H h v d → tv d = some ds → ∃ a xs, v = .ref a ∧ Tu K N H h a xs ∧ Rls K N H h xs ds := fun r e => by
    unfold tv at e
    split at e
    · cases e; exact r.t
    · cases e
  obtain ⟨q, xs, rfl, t1, r1⟩ := T a e1
  obtain ⟨q', xs', rfl, t2, r2⟩ := T c e2
  refine ⟨q, q', xs, xs', rfl, rfl, t1.sq, t2.sq, sz_of (by rw [r1.length, r2.length]; exact z), fun w => ?_, fun _ w => ?_, fun _ _ r hr => k.tup S hr (r1.append r2) p⟩
  · subst w; cases r1; exact k.at S (.tup t2 r2) p
  · subst w; cases r2; rw [List.append_nil] at p; exact k.at S (.tup t1 r1) p⟩
@[simp] def fCat (d e : PyData) (h : Lh) (P : List PyData → Lh → Prop) : Prop := ∃ ds es, isSc d = false ∧ isSc e = false ∧ lv h d = some ds ∧ lv h e = some es ∧ ds.length + es.length ≤ 100000 ∧ P (ds ++ es) h
instance : R2N K rCat fCat := ⟨fun S a c ⟨ds, es, c1, c2, e1, e2, z, p⟩ k => by
  obtain ⟨q, xs, rfl, t1, r1⟩ := a.lvo S e1 c1
  obtain ⟨q', xs', rfl, t2, r2⟩ := c.lvo S e2 c2
  exact ⟨q, q', xs, xs', rfl, rfl, t1, t2, sz_of (by rw [r1.length, r2.length]; exact z), fun r hr => k.new S hr (r1.append r2) p⟩⟩
end
end Wl
set_option Elab.async false
set_option linter.all false
set_option maxRecDepth 100000
set_option maxHeartbeats 2000000
/-! Wc: tests, calls, statements, loops over the plain layer. -/
namespace Wl
open PySem PySem.Spec PyProof.Rows L2 Evl Pd
def wCond (b : Bool) (A B : Prop) : Prop := (b = true → A) ∧ (b = false → B)
@[simp] theorem wCond_t {A B : Prop} : wCond true A B = A := by simp [wCond]
@[simp] theorem wCond_f {A B : Prop} : wCond false A B = B := by simp [wCond]
@[simp] theorem wCond_same {b : Bool} {A : Prop} : wCond b A A = A := by cases b <;> simp
@[simp] theorem wCond_not {b : Bool} {A B : Prop} : wCond (!b) A B = wCond b B A := by cases b <;> simp
@[simp] theorem wCond_or {b c : Bool} {A B : Prop} : wCond b A (wCond c A B) = wCond (b || c) A B := by cases b <;> simp
@[simp] theorem wCond_and {b c : Bool} {A B : Prop} : wCond b (wCond c A B) B = wCond (b && c) A B := by cases b <;> simp
@[simp] theorem wCond_andP {b c : Bool} {P : Wv} {h : Lh} : wCond b (P (.bool c) h) (P (.bool false) h) = P (.bool (b && c)) h := by cases b <;> simp
@[simp] theorem wCond_orP {b c : Bool} {P : Wv} {h : Lh} : wCond b (P (.bool true) h) (P (.bool c) h) = P (.bool (b || c)) h := by cases b <;> simp
theorem wCond.i {b : Bool} {A B : Prop} (a : b = true → A) (c : b = false → B) : wCond b A B := ⟨a, c⟩
theorem wCond.p {p : Prop} [Decidable p] {A B : Prop} (a : p → A) (c : ¬ p → B) : wCond (decide p) A B := ⟨fun z => a (of_decide_eq_true z), fun z => c (of_decide_eq_false z)⟩
theorem wCond.t {A B : Prop} (a : A) : wCond true A B := ⟨fun _ => a, fun z => (by cases z)⟩
theorem wCond.f {A B : Prop} (a : B) : wCond false A B := ⟨fun z => (by cases z), fun _ => a⟩
theorem wCond.on {b : Bool} {A B : Prop} {A' B' : Prop} (c : wCond b A B) (f : A → A') (g : B → B') : if b = true then A' else B' := by
  cases b with
  | true => rw [if_pos rfl]; exact f (c.1 rfl)
  | false => rw [if_neg (by decide)]; exact g (c.2 rfl)
section
variable {K : PySem.W.Frag} {XX : XP}
def asB : PyData → (Bool → Prop) → Prop
  | .bool b, k => k b
  | _, _ => False
@[simp] theorem asB_bool {b : Bool} {k : Bool → Prop} : asB (.bool b) k = k b := rfl
theorem asB_ex {d : PyData} {k : Bool → Prop} (h : asB d k) : ∃ b, d = .bool b ∧ k b := by
  cases d <;> first | exact h.elim | exact ⟨_, rfl, h⟩
@[simp] def wTst (a : WE) : WT := fun ρ h P => a ρ h fun d h1 => asB d fun b => P b h1
instance {ta : TE} {a : WE} [A : RE K XX ta a] : RT K XX (tTest ta) (wTst a) := ⟨fun S E p k => A.run S E p fun v d H1 h1 t1 S1 r1 z => by
  obtain ⟨b, e, p1⟩ := asB_ex z
  subst e; exact ⟨b, r1.b, k _ _ _ t1 S1 p1⟩⟩
instance {ta : TE} {a : WE} [A : RE K XX ta a] : RT K XX (tB ta) (wTst a) := ⟨fun S E p k => A.run S E p fun v d H1 h1 t1 S1 r1 z => by
  obtain ⟨b, e, p1⟩ := asB_ex z
  subst e; exact ⟨b, r1.b, k _ _ _ t1 S1 p1⟩⟩
@[simp] def wAnd (a b : WT) : WT := fun ρ h P => a ρ h fun c h1 => wCond c (b ρ h1 P) (P false h1)
@[simp] def wOr (a b : WT) : WT := fun ρ h P => a ρ h fun c h1 => wCond c (P true h1) (b ρ h1 P)
@[simp] def wNot (a : WT) : WT := fun ρ h P => a ρ h fun c h1 => P (!c) h1
instance {ta tb : TT} {a b : WT} [A : RT K XX ta a] [B : RT K XX tb b] : RT K XX (tAnd ta tb) (wAnd a b) := ⟨fun S E p k => A.run S E p fun c H1 h1 t1 S1 p1 =>
  p1.on (fun q => B.run S1 (E.tr t1) q (k.tr t1)) fun q => k _ _ _ t1 S1 q⟩
instance {ta tb : TT} {a b : WT} [A : RT K XX ta a] [B : RT K XX tb b] : RT K XX (tOr ta tb) (wOr a b) := ⟨fun S E p k => A.run S E p fun c H1 h1 t1 S1 p1 =>
  p1.on (fun q => k _ _ _ t1 S1 q) fun q => B.run S1 (E.tr t1) q (k.tr t1)⟩
instance {ta : TT} {a : WT} [A : RT K XX ta a] : RT K XX (tNot ta) (wNot a) := ⟨fun S E p k => A.run S E p fun c H1 h1 t1 S1 p1 => k _ _ _ t1 S1 p1⟩
@[simp] def wYes : WT := fun _ h P => P true h
instance : RT K XX tYes wYes := ⟨fun S E p k => k _ _ _ (Tr.refl _ _) S p⟩
@[simp] def wAndV (a b : WE) : WE := fun ρ h P => a ρ h fun d h1 => asB d fun c => wCond c (b ρ h1 P) (P (.bool false) h1)
@[simp] def wOrV (a b : WE) : WE := fun ρ h P => a ρ h fun d h1 => asB d fun c => wCond c (P (.bool true) h1) (b ρ h1 P)
@[simp] def wNotV (a : WE) : WE := fun ρ h P => a ρ h fun d h1 => asB d fun c => P (.bool (!c)) h1
instance {ta tb : TE} {a b : WE} [A : RE K XX ta a] [B : RE K XX tb b] : RE K XX (tAndV ta tb) (wAndV a b) := ⟨fun S E p k => A.run S E p fun v d H1 h1 t1 S1 r1 z => by
  obtain ⟨c, e, p1⟩ := asB_ex z
  subst e; exact ⟨c, r1.b, p1.on (fun q => B.run S1 (E.tr t1) q (k.tr t1)) fun q => (k.tr t1).at S1 (.bl _) q⟩⟩
instance {ta tb : TE} {a b : WE} [A : RE K XX ta a] [B : RE K XX tb b] : RE K XX (tOrV ta tb) (wOrV a b) := ⟨fun S E p k => A.run S E p fun v d H1 h1 t1 S1 r1 z => by
  obtain ⟨c, e, p1⟩ := asB_ex z
  subst e; exact ⟨c, r1.b, p1.on (fun q => (k.tr t1).at S1 (.bl _) q) fun q => B.run S1 (E.tr t1) q (k.tr t1)⟩⟩
instance {ta : TE} {a : WE} [A : RE K XX ta a] : RE K XX (tNotV ta) (wNotV a) := ⟨fun S E p k => A.run S E p fun v d H1 h1 t1 S1 r1 z => by
  obtain ⟨c, e, p1⟩ := asB_ex z
  subst e; exact ⟨c, r1.b, (k.tr t1).at S1 (.bl _) p1⟩⟩
@[simp] def wIf (t : WT) (a b : WE) : WE := fun ρ h P => t ρ h fun c h1 => wCond c (a ρ h1 P) (b ρ h1 P)
instance {tt : TT} {ta tb : TE} {t : WT} {a b : WE} [T : RT K XX tt t] [A : RE K XX ta a] [B : RE K XX tb b] : RE K XX (tIf tt ta tb) (wIf t a b) := ⟨fun S E p k => T.run S E p fun c H1 h1 t1 S1 p1 =>
  p1.on (fun q => A.run S1 (E.tr t1) q (k.tr t1)) fun q => B.run S1 (E.tr t1) q (k.tr t1)⟩
@[simp] def wChain (g g' : Int → Int → Bool) (a b c : WE) : WE := fun ρ h P => a ρ h fun d h1 => b ρ h1 fun e h2 => ∃ i j, d = .int i ∧ e = .int j ∧ wCond (g i j) (c ρ h2 fun f h3 => ∃ k, f = .int k ∧ P (.bool (g' j k)) h3) (P (.bool false) h2)
instance (g g' : Int → Int → Bool) {ta tb tc : TE} {a b c : WE} [A : RE K XX ta a] [B : RE K XX tb b] [C : RE K XX tc c] : RE K XX (tChain (rI0 fun i j => .bl (g i j)) (rI0 fun i j => .bl (g' i j)) ta tb tc) (wChain g g' a b c) := ⟨fun S E p k =>
  A.run S E p fun v d H1 h1 t1 S1 r1 p1 => B.run S1 (E.tr t1) p1 fun w e H2 h2 t2 S2 r2 ⟨i, j, e1, e2, p2⟩ => by
    subst e1; subst e2
    refine ⟨i, j, r1.i, r2.i, g i j, rfl, p2.on (fun q => C.run S2 (E.tr (t1.trans t2)) q fun x f H3 h3 t3 S3 r3 ⟨n, e3, p3⟩ => ?_) fun q => (k.tr (t1.trans t2)).at S2 (.bl _) q⟩
    subst e3
    exact ⟨j, n, r2.i, r3.i, (k.tr ((t1.trans t2).trans t3)).at S3 (.bl _) p3⟩⟩
/-! ### built-ins -/
@[simp] def wCB (f : List PyData → Lh → Wv → Prop) (a : WA) : WE := fun ρ h P => a ρ h fun ds h1 => f ds h1 P
instance {r : List V → Hp → VK → Prop} {f : List PyData → Lh → Wv → Prop} {ta : TA} {a : WA} [A : RA K XX ta a] [R : RCW K r f] : RE K XX (tCB r ta) (wCB f a) := ⟨fun S E p k =>
  A.run S E p fun vs ds H1 h1 t1 S1 r1 p1 => R.run S1 r1 p1 (k.tr t1)⟩
@[simp] def wCN (f : List PyData → Lh → (List PyData → Lh → Prop) → Prop) (a : WA) : WA := fun ρ h P => a ρ h fun ds h1 => f ds h1 P
instance {r : List V → Hp → VK → Prop} {f : List PyData → Lh → (List PyData → Lh → Prop) → Prop} {ta : TA} {a : WA} [A : RA K XX ta a] [R : RCN K r f] : RN K XX (tCB r ta) (wCN f a) := ⟨fun S E p k =>
  A.run S E p fun vs ds H1 h1 t1 S1 r1 p1 => R.run S1 r1 p1 (k.tr t1)⟩
/-- the kind of a value -/
def tyH (h : Lh) : PyData → String
  | .dict [(.int i, .none)] => match h i.toNat with
    | some (.lst _) => "list"
    | some (.dK _) => "dict"
    | some (.dT _) => "dict"
    | _ => "?"
  | .none => "NoneType"
  | .bool _ => "bool"
  | .int _ => "int"
  | .str _ => "str"
  | .list _ => "list"
  | .tuple _ => "tuple"
  | .dict [(.none, .tuple _)] => "list"
  | .dict _ => "?"
@[simp] theorem tyH_none {h : Lh} : tyH h .none = "NoneType" := rfl
@[simp] theorem tyH_bool {h : Lh} {b : Bool} : tyH h (.bool b) = "bool" := rfl
@[simp] theorem tyH_int {h : Lh} {b : Int} : tyH h (.int b) = "int" := rfl
@[simp] theorem tyH_str {h : Lh} {b : Str} : tyH h (.str b) = "str" := rfl
@[simp] theorem tyH_list {h : Lh} {b : List PyData} : tyH h (.list b) = "list" := rfl
@[simp] theorem tyH_tuple {h : Lh} {b : List PyData} : tyH h (.tuple b) = "tuple" := rfl
@[simp] theorem tyH_rf {h : Lh} {p : Addr} : tyH h (.dict [(.int ((p : Nat) : Int), .none)]) = match h p with | some (.lst _) => "list" | some (.dK _) => "dict" | some (.dT _) => "dict" | _ => "?" := by simp only [tyH, Int.toNat_natCast]
theorem Rl.ty {N : Addr → Prop} {H : Hp} {h : Lh} {v : V} {d : PyData} (S : Sx K XX N H h) (r : Rl K N H h v d) (e : tyH h d ≠ "?") : TyX K H v (.type (tyH h d)) := by
  cases r with
  | non => exact .base .non
  | bl b => exact .base (.bl b)
  | int i => exact .base (.int i)
  | str s => exact .base (.str s)
  | lst h1 _ => exact .base (.lst h1.1)
  | tup h1 _ =>
    rcases h1 with h1 | ⟨o, its, n, e1, e2, _⟩
    · exact .base (.tup h1.1)
    · exact .kTuple e1 e2
  | rf a =>
    simp only [tyH, Int.toNat_natCast] at e ⊢
    cases q : h a with
    | none => rw [q] at e; exact absurd rfl e
    | some o =>
      obtain ⟨n, u, z, k⟩ := S.at_ a o q
      cases k with
      | lst k => exact .base (.lst z)
      | dK k => exact .base (.dK z)
      | dT k => exact .base (.dT z)
      | ins k => rw [q] at e; exact absurd rfl e
      | set w1 a1 k => rw [q] at e; exact absurd rfl e
      | lk k => rw [q] at e; exact absurd rfl e
      | lkT k => rw [q] at e; exact absurd rfl e
  | scr ns c =>
    rcases c with ⟨c | ⟨o, c⟩, _⟩ | ⟨o, its, n, e1, e2, _⟩
    · exact .base (.lst c)
    · exact .base (.frz c)
    · exact .kList e1 e2
@[simp] def wIsi (T : String) (a : WE) : WE := fun ρ h P => a ρ h fun d h1 => tyH h1 d ≠ "?" ∧ onB (kitB (tyH h1 d) T) fun b => P (.bool b) h1
instance (priority := high) {ta : TE} {a : WE} {T : String} [A : RE K XX ta a] : RE K XX (tCB (rIsi K) (tCons ta (tCons (tC (.ty T)) tNil))) (wIsi T a) := ⟨fun S E p k =>
  A.run S E p fun v d H1 h1 t1 S1 r1 ⟨e0, z⟩ => by
  obtain ⟨b, e, p1⟩ := onB_ex z
  exact ⟨v, .ty T, .type (tyH h1 d), .type T, b, rfl, .ty T, r1.ty S1 e0, kit_ty e, (k.tr t1).at S1 (.bl _) p1⟩⟩
@[simp] def fLenS (ds : List PyData) (h : Lh) (P : Wv) : Prop := ∃ z, ds = [.str z] ∧ z.length ≤ 100000 ∧ P (.int z.length) h
instance : RCW K (fun xs H Q => ∃ z, xs = [.str z] ∧ z.length ≤ sizeLine ∧ Q (.int z.length) H) fLenS := ⟨fun S r ⟨z, e, e2, p⟩ k => by
  subst e; obtain ⟨v, rfl, i⟩ := r.one; rw [i.s]; exact ⟨z, rfl, sz_of e2, k.at S (.int _) p⟩⟩
@[simp] def fLen (ds : List PyData) (h : Lh) (P : Wv) : Prop := ∃ d es, ds = [d] ∧ qv h d = some es ∧ P (.int (es.length : Nat)) h
instance : RCW K (rLenS K) fLen := ⟨fun S r ⟨d, es, e, e2, p⟩ k => by
  subst e; obtain ⟨v, rfl, i⟩ := r.one
  obtain ⟨a, xs, rfl, t, rs⟩ := i.qv S e2
  exact ⟨a, xs, rfl, t, by rw [rs.length]; exact k.at S (.int _) p⟩⟩
@[simp] def boolL : List PyData → Option (List Bool)
  | [] => some []
  | .bool b :: ds => (boolL ds).map (b :: ·)
  | _ => none
theorem boolL_eq : ∀ {ds : List PyData} {bs : List Bool}, boolL ds = some bs → ds = bs.map .bool
  | [], _, h => by cases h; rfl
  | .bool b :: ds, bs, h => by
    unfold boolL at h
    obtain ⟨cs, hc, rfl⟩ := Option.map_eq_some_iff.mp h
    rw [boolL_eq hc]; rfl
  | .none :: _, _, h => by cases h
  | .int _ :: _, _, h => by cases h
  | .str _ :: _, _, h => by cases h
  | .list _ :: _, _, h => by cases h
  | .tuple _ :: _, _, h => by cases h
  | .dict _ :: _, _, h => by cases h
@[simp] theorem boolL_map (bs : List Bool) : boolL (bs.map .bool) = some bs := by
  induction bs with
  | nil => rfl
  | cons b bs ih => simp [boolL, ih]
theorem boolL_mapF {α : Type} (l : List α) (f : α → Bool) : boolL (l.map fun a => PyData.bool (f a)) = some (l.map f) := by
  have := boolL_map (l.map f)
  rw [List.map_map] at this
  exact this
@[simp] def fAll (ds : List PyData) (h : Lh) (P : Wv) : Prop := ∃ d es bs, ds = [d] ∧ lv h d = some es ∧ boolL es = some bs ∧ P (.bool (bs.all id)) h
@[simp] def fAny (ds : List PyData) (h : Lh) (P : Wv) : Prop := ∃ d es bs, ds = [d] ∧ lv h d = some es ∧ boolL es = some bs ∧ P (.bool (bs.any id)) h
instance : RCW K (L2.rAll K) fAll := ⟨fun S r ⟨d, es, bs, e, e2, e3, p⟩ k => by
  subst e; obtain ⟨v, rfl, i⟩ := r.one
  obtain ⟨a, xs, rfl, t, rs⟩ := i.lv S e2
  rw [boolL_eq e3] at rs
  have := rs.bls; subst this
  exact ⟨a, bs, rfl, t, k.at S (.bl _) p⟩⟩
instance : RCW K (L2.rAny K) fAny := ⟨fun S r ⟨d, es, bs, e, e2, e3, p⟩ k => by
  subst e; obtain ⟨v, rfl, i⟩ := r.one
  obtain ⟨a, xs, rfl, t, rs⟩ := i.lv S e2
  rw [boolL_eq e3] at rs
  have := rs.bls; subst this
  exact ⟨a, bs, rfl, t, k.at S (.bl _) p⟩⟩
@[simp] def fTupOf (ds : List PyData) (h : Lh) (P : Wv) : Prop := ∃ d es, ds = [d] ∧ qv h d = some es ∧ P (.tuple es) h
instance : RCW K (rTupOf K) fTupOf := ⟨fun {XX N H h xs ds P Q} S r ⟨d, es, e, e2, p⟩ k => by
  subst e; obtain ⟨v, rfl, i⟩ := r.one
  unfold qv at e2
  cases q : tv d with
  | some es' =>
    rw [q] at e2; cases e2
    unfold tv at q
    split at q
    · cases q
      obtain ⟨a, xs, rfl, t, rs⟩ := i.t
      exact ⟨a, xs, rfl, .inr ⟨t.sq, k.at S (.tup t rs) p⟩⟩
    · cases q
  | none =>
    rw [q] at e2
    obtain ⟨a, xs, rfl, t, rs⟩ := i.lv S e2
    exact ⟨a, xs, rfl, .inl ⟨t, fun l hl => k.tup S hl rs p⟩⟩⟩
@[simp] def fLstOf (ds : List PyData) (h : Lh) (P : List PyData → Lh → Prop) : Prop := ∃ d es, ds = [d] ∧ qv h d = some es ∧ P es h
instance : RCN K (rLstOf K) fLstOf := ⟨fun S r ⟨d, es, e, e2, p⟩ k => by
  subst e; obtain ⟨v, rfl, i⟩ := r.one
  obtain ⟨a, xs, rfl, t, rs⟩ := i.qv S e2
  exact ⟨a, xs, rfl, t, fun l hl => k.new S hl rs p⟩⟩
@[simp] def fAbs (ds : List PyData) (h : Lh) (P : Wv) : Prop := ∃ i, ds = [.int i] ∧ P (.int (if i < 0 then -i else i)) h
instance : RCW K (fun xs H Q => ∃ i, xs = [.int i] ∧ Q (.int (if i < 0 then -i else i)) H) fAbs := ⟨fun S r ⟨i, e, p⟩ k => by
  subst e; obtain ⟨v, rfl, iv⟩ := r.one; rw [iv.i]; exact ⟨i, rfl, k.at S (.int _) p⟩⟩
@[simp] def fMax2 (ds : List PyData) (h : Lh) (P : Wv) : Prop := ∃ i j, ds = [.int i, .int j] ∧ P (.int (if j > i then j else i)) h
instance : RCW K (fun xs H Q => ∃ i j, xs = [.int i, .int j] ∧ Q (.int (if j > i then j else i)) H) fMax2 := ⟨fun S r ⟨i, j, e, p⟩ k => by
  subst e; obtain ⟨v, w, rfl, iv, iw⟩ := r.two; rw [iv.i, iw.i]; exact ⟨i, j, rfl, k.at S (.int _) p⟩⟩
@[simp] def fNeg (d : PyData) (h : Lh) (P : Wv) : Prop := ∃ i, d = .int i ∧ P (.int (-i)) h
instance : R1W K (rU fun i => .int (-i)) fNeg := ⟨fun S r ⟨i, e, p⟩ k => by
  subst e; exact ⟨i, r.i, k.at S (.int _) p⟩⟩
@[simp] def fInt1 (ds : List PyData) (h : Lh) (P : Wv) : Prop := (∃ i, ds = [.int i] ∧ P (.int i) h) ∨ ∃ b, ds = [.bool b] ∧ P (.int (if b then 1 else 0)) h
instance : RCW K (fun xs H Q => (∃ i, xs = [.int i] ∧ Q (.int i) H) ∨ ∃ k, xs = [.bl k] ∧ Q (.int (if k then 1 else 0)) H) fInt1 := ⟨fun S r p k => by
  rcases p with ⟨i, e, p⟩ | ⟨b, e, p⟩
  · subst e; obtain ⟨v, rfl, iv⟩ := r.one; rw [iv.i]; exact .inl ⟨i, rfl, k.at S (.int _) p⟩
  · subst e; obtain ⟨v, rfl, iv⟩ := r.one; rw [iv.b]; exact .inr ⟨b, rfl, k.at S (.int _) p⟩⟩
/-! ### own defs -/
/-- a def's promise; exceptions: the class and the fields -/
def SpX (K : PySem.W.Frag) (D : List PyData → Lh → Wv → (Addr → List (Str × PyData) → Lh → Prop) → Prop) : Sp := fun vs H Q E => ∃ (N : Addr → Prop) (h : Lh) (ds : List PyData) (P : Wv) (X : Addr → List (Str × PyData) → Lh → Prop),
  Sx K ⟨fun _ => E, fun _ => X⟩ N H h ∧ Rls K N H h vs ds ∧ D ds h P X ∧ Ko K ⟨fun _ => E, fun _ => X⟩ N H h P Q
abbrev DX := List PyData → Lh → Wv → (Addr → List (Str × PyData) → Lh → Prop) → Prop
/-- .. that lets none out -/
abbrev SpW (K : PySem.W.Frag) (D : List PyData → Lh → Wv → Prop) : Sp := SpX K fun ds h P _ => D ds h P
theorem SpX.len {D : DX} {n : Nat} (f : ∀ ds h P X, D ds h P X → ds.length = n) : ∀ vs H Q E, SpX K D vs H Q E → vs.length = n := fun vs H Q E ⟨_, _, _, _, _, _, r, d, _⟩ => by rw [r.length]; exact f _ _ _ _ d
theorem SpW.len {D : List PyData → Lh → Wv → Prop} {n : Nat} (f : ∀ ds h P, D ds h P → ds.length = n) : ∀ vs H Q E, SpW K D vs H Q E → vs.length = n := SpX.len fun ds h P _ => f ds h P
section
variable {N : Addr → Prop} {H H' : Hp} {h h' : Lh}
/-- a call: in the callee other exceptions may go elsewhere -/
theorem Ko.in {E : XK} {X : Addr → List (Str × PyData) → Lh → Prop} {P : Wv} {Q : VK} (S : Sx K XX N H h) (k : Ko K XX N H h P Q) : Ko K ⟨fun _ => E, fun _ => X⟩ N H h P Q := fun v d H' h' t S' r p => k v d H' h' t (S.to t S'.toSim) r p
theorem Sx.noX {E : XK} (S : Sim K N H h) : Sx K ⟨fun _ => E, fun _ _ _ _ => False⟩ N H h := ⟨S, fun _ _ _ _ _ _ _ _ _ _ _ z => z.elim⟩
theorem Sx.call {σ : L2.St} {ρ : Ev'} {E0 : L2.St → XK} {X0 : Ev' → Addr → List (Str × PyData) → Lh → Prop} (S : Sx K ⟨E0, X0⟩ N H h) (e : En K N H h σ ρ) : Sx K ⟨fun _ => E0 σ, fun _ => X0 ρ⟩ N H h := ⟨S.toSim, fun _ _ C d fs H' h' t S' _ x p => S.x σ ρ C d fs H' h' t S' (e.tr t) x p⟩
end
@[simp] def wCall (D : DX) (X : Ev' → Addr → List (Str × PyData) → Lh → Prop) (a : WA) : WE := fun ρ h P => a ρ h fun ds h1 => D ds h1 P (X ρ)
/-- of a def that lets none out -/
@[simp] def wCallW (D : List PyData → Lh → Wv → Prop) (a : WA) : WE := fun ρ h P => a ρ h fun ds h1 => D ds h1 P
instance (priority := high) {D : List PyData → Lh → Wv → Prop} {E : XK} {ta : TA} {a : WA} [A : RA K XX ta a] : RE K XX (tCall (SpX K fun ds h P _ => D ds h P) [] E ta) (wCallW D a) := ⟨fun {N σ H ρ h P Q} S E0 p k =>
  A.run S E0 p fun vs ds H1 h1 t1 S1 r1 p1 => ⟨N, h1, ds, P, _, Sx.noX S1.toSim, by rw [List.append_nil]; exact r1, p1, (k.tr t1).in S1⟩⟩
instance (priority := high) {D : List PyData → Lh → Wv → Prop} {E : L2.St → XK} {ta : TA} {a : WA} [A : RA K XX ta a] : RE K XX (tCallS (SpX K fun ds h P _ => D ds h P) E ta) (wCallW D a) := ⟨fun {N σ H ρ h P Q} S E0 p k =>
  A.run S E0 p fun vs ds H1 h1 t1 S1 r1 p1 => ⟨N, h1, ds, P, _, Sx.noX S1.toSim, r1, p1, (k.tr t1).in S1⟩⟩
instance {D : DX} {E : XK} {X : Ev' → Addr → List (Str × PyData) → Lh → Prop} {ta : TA} {a : WA} [A : RA K ⟨fun _ => E, X⟩ ta a] : RE K ⟨fun _ => E, X⟩ (tCall (SpX K D) [] E ta) (wCall D X a) := ⟨fun {N σ H ρ h P Q} S E0 p k =>
  A.run S E0 p fun vs ds H1 h1 t1 S1 r1 p1 => ⟨N, h1, ds, P, X ρ, S1.call (E0.tr t1), by rw [List.append_nil]; exact r1, p1, (k.tr t1).in S1⟩⟩
instance {D : DX} {E : L2.St → XK} {X : Ev' → Addr → List (Str × PyData) → Lh → Prop} {ta : TA} {a : WA} [A : RA K ⟨E, X⟩ ta a] : RE K ⟨E, X⟩ (tCallS (SpX K D) E ta) (wCall D X a) := ⟨fun {N σ H ρ h P Q} S E0 p k =>
  A.run S E0 p fun vs ds H1 h1 t1 S1 r1 p1 => ⟨N, h1, ds, P, X ρ, S1.call (E0.tr t1), r1, p1, (k.tr t1).in S1⟩⟩
@[simp] def wCallN (n m : Nat) (D : DX) (X : Ev' → Addr → List (Str × PyData) → Lh → Prop) (a b : WA) : WE := fun ρ h P => a ρ h fun ds h1 => b ρ h1 fun es h2 => ds.length = n ∧ es.length = m ∧ D (ds ++ es) h2 P (X ρ)
@[simp] def wCallNW (n m : Nat) (D : List PyData → Lh → Wv → Prop) (a b : WA) : WE := fun ρ h P => a ρ h fun ds h1 => b ρ h1 fun es h2 => ds.length = n ∧ es.length = m ∧ D (ds ++ es) h2 P
instance (priority := high) {D : List PyData → Lh → Wv → Prop} {E : XK} {ta tb : TA} {a b : WA} {n m : Nat} [A : RA K XX ta a] [B : RA K XX tb b] : RE K XX (tCallN n m (SpX K fun ds h P _ => D ds h P) (fun vs zs => vs ++ zs) E ta tb) (wCallNW n m D a b) := ⟨fun {N σ H ρ h P Q} S E0 p k =>
  A.run S E0 p fun vs ds H1 h1 t1 S1 r1 p1 => B.run S1 (E0.tr t1) p1 fun ws es H2 h2 t2 S2 r2 ⟨l1, l2, p2⟩ => ⟨by rw [r1.length]; exact l1, by rw [r2.length]; exact l2, N, h2, ds ++ es, P, _, Sx.noX S2.toSim, (r1.tr t2).append r2, p2, (k.tr (t1.trans t2)).in S2⟩⟩
instance (priority := high) {D : List PyData → Lh → Wv → Prop} {E : L2.St → XK} {ta tb : TA} {a b : WA} {n m : Nat} [A : RA K XX ta a] [B : RA K XX tb b] : RE K XX (tCallNS n m (SpX K fun ds h P _ => D ds h P) E ta tb) (wCallNW n m D a b) := ⟨fun {N σ H ρ h P Q} S E0 p k =>
  A.run S E0 p fun vs ds H1 h1 t1 S1 r1 p1 => B.run S1 (E0.tr t1) p1 fun ws es H2 h2 t2 S2 r2 ⟨l1, l2, p2⟩ => ⟨by rw [r1.length]; exact l1, by rw [r2.length]; exact l2, N, h2, ds ++ es, P, _, Sx.noX S2.toSim, (r1.tr t2).append r2, p2, (k.tr (t1.trans t2)).in S2⟩⟩
instance {D : DX} {E : XK} {X : Ev' → Addr → List (Str × PyData) → Lh → Prop} {ta tb : TA} {a b : WA} {n m : Nat} [A : RA K ⟨fun _ => E, X⟩ ta a] [B : RA K ⟨fun _ => E, X⟩ tb b] : RE K ⟨fun _ => E, X⟩ (tCallN n m (SpX K D) (fun vs zs => vs ++ zs) E ta tb) (wCallN n m D X a b) := ⟨fun {N σ H ρ h P Q} S E0 p k =>
  A.run S E0 p fun vs ds H1 h1 t1 S1 r1 p1 => B.run S1 (E0.tr t1) p1 fun ws es H2 h2 t2 S2 r2 ⟨l1, l2, p2⟩ => ⟨by rw [r1.length]; exact l1, by rw [r2.length]; exact l2, N, h2, ds ++ es, P, X ρ, S2.call (E0.tr (t1.trans t2)), (r1.tr t2).append r2, p2, (k.tr (t1.trans t2)).in S2⟩⟩
instance {D : DX} {E : L2.St → XK} {X : Ev' → Addr → List (Str × PyData) → Lh → Prop} {ta tb : TA} {a b : WA} {n m : Nat} [A : RA K ⟨E, X⟩ ta a] [B : RA K ⟨E, X⟩ tb b] : RE K ⟨E, X⟩ (tCallNS n m (SpX K D) E ta tb) (wCallN n m D X a b) := ⟨fun {N σ H ρ h P Q} S E0 p k =>
  A.run S E0 p fun vs ds H1 h1 t1 S1 r1 p1 => B.run S1 (E0.tr t1) p1 fun ws es H2 h2 t2 S2 r2 ⟨l1, l2, p2⟩ => ⟨by rw [r1.length]; exact l1, by rw [r2.length]; exact l2, N, h2, ds ++ es, P, X ρ, S2.call (E0.tr (t1.trans t2)), (r1.tr t2).append r2, p2, (k.tr (t1.trans t2)).in S2⟩⟩
/-- an attribute -/
def lkD (f : Str) (fs : List (Str × PyData)) : Option PyData := fs.lookup f
@[simp] theorem lkD_nil {f : Str} : lkD f [] = none := rfl
@[simp] theorem lkD_cons {f g : Str} {v : PyData} {r : List (Str × PyData)} : lkD f ((g, v) :: r) = if f = g then some v else lkD f r := by
  unfold lkD
  by_cases h : f = g
  · subst h; simp [List.lookup]
  · rw [if_neg h]
    have : (f == g) = false := beq_eq_false_iff_ne.mpr h
    simp only [List.lookup, this]
@[simp] def wMeth (C : Addr) (m : Str) (D : DX) (X : Ev' → Addr → List (Str × PyData) → Lh → Prop) (a : WE) (b : WA) : WE := fun ρ h P => a ρ h fun d h1 => ∃ p fs, d = rf p ∧ h1 p = some (.ins C fs) ∧ lkD m fs = none ∧ b ρ h1 fun ds h2 => D (d :: ds) h2 P (X ρ)
@[simp] def wMethW (C : Addr) (m : Str) (D : List PyData → Lh → Wv → Prop) (a : WE) (b : WA) : WE := fun ρ h P => a ρ h fun d h1 => ∃ p fs, d = rf p ∧ h1 p = some (.ins C fs) ∧ lkD m fs = none ∧ b ρ h1 fun ds h2 => D (d :: ds) h2 P
instance (priority := high) {D : List PyData → Lh → Wv → Prop} {C : Addr} {m : Str} {E : XK} {ta : TE} {tb : TA} {a : WE} {b : WA} [A : RE K XX ta a] [B : RA K XX tb b] : RE K XX (tMeth C m (SpX K fun ds h P _ => D ds h P) [] E ta tb) (wMethW C m D a b) := ⟨fun {N σ H ρ h P Q} S E0 p k =>
  A.run S E0 p fun v d H1 h1 t1 S1 r1 ⟨q, fs, e, e2, e3, p1⟩ => by
    obtain ⟨dx, xs, z, pr⟩ := Rl.insH S1 e2
    have ev := r1.r (a := q) (by rw [e]; exact asR_rf q)
    refine ⟨q, dx, xs, ev, z, (Paired.lookup pr).1 e3, B.run S1 (E0.tr t1) p1 fun vs ds H2 h2 t2 S2 r2 p2 => ⟨N, h2, d :: ds, P, _, Sx.noX S2.toSim, ?_, p2, (k.tr (t1.trans t2)).in S2⟩⟩
    rw [List.append_nil]; exact .cons (r1.tr t2) r2⟩
instance {D : DX} {C : Addr} {m : Str} {E : XK} {X : Ev' → Addr → List (Str × PyData) → Lh → Prop} {ta : TE} {tb : TA} {a : WE} {b : WA} [A : RE K ⟨fun _ => E, X⟩ ta a] [B : RA K ⟨fun _ => E, X⟩ tb b] : RE K ⟨fun _ => E, X⟩ (tMeth C m (SpX K D) [] E ta tb) (wMeth C m D X a b) := ⟨fun {N σ H ρ h P Q} S E0 p k =>
  A.run S E0 p fun v d H1 h1 t1 S1 r1 ⟨q, fs, e, e2, e3, p1⟩ => by
    obtain ⟨dx, xs, z, pr⟩ := Rl.insH S1 e2
    have ev := r1.r (a := q) (by rw [e]; exact asR_rf q)
    refine ⟨q, dx, xs, ev, z, (Paired.lookup pr).1 e3, B.run S1 (E0.tr t1) p1 fun vs ds H2 h2 t2 S2 r2 p2 => ⟨N, h2, d :: ds, P, X ρ, S2.call (E0.tr (t1.trans t2)), ?_, p2, (k.tr (t1.trans t2)).in S2⟩⟩
    rw [List.append_nil]; exact .cons (r1.tr t2) r2⟩
/-- a new instance -/
@[simp] def wMake (C : Addr) (D : DX) (X : Ev' → Addr → List (Str × PyData) → Lh → Prop) (a : WA) : WE := fun ρ h P => a ρ h fun ds h1 => ∀ x, h1 x = none → D (rf x :: ds) (up h1 x (.ins C [])) (fun d h2 => d = .none ∧ P (rf x) h2) (X ρ)
@[simp] def wMakeW (C : Addr) (D : List PyData → Lh → Wv → Prop) (a : WA) : WE := fun ρ h P => a ρ h fun ds h1 => ∀ x, h1 x = none → D (rf x :: ds) (up h1 x (.ins C [])) (fun d h2 => d = .none ∧ P (rf x) h2)
theorem make_sim {N : Addr → Prop} {H1 : Hp} {h1 : Lh} {x dx C : Addr} (S1 : Sim K N H1 h1) (hx : H1 x = none) (hdx : H1 dx = none) (ne : dx ≠ x) : Tr H1 h1 (L2.upd (L2.upd H1 dx (.own x)) x (.ins C dx [])) (up h1 x (.ins C [])) ∧ Sim K N (L2.upd (L2.upd H1 dx (.own x)) x (.ins C dx [])) (up h1 x (.ins C [])) := by
  have hx' : L2.upd H1 dx (.own x) x = none := by rw [upd_ne (Ne.symm ne)]; exact hx
  have S2 := S1.new (v := .own x) hdx
  have t2 : Tr H1 h1 (L2.upd H1 dx (.own x)) h1 := Tr.new hdx
  exact ⟨t2.trans (Tr.put (.inl hx')), S2.put (p := x) (v := .ins C dx []) (l := .ins C []) (.inl hx') (.ins .nil)⟩
instance (priority := high) {D : List PyData → Lh → Wv → Prop} {C : Addr} {E : XK} {ta : TA} {a : WA} [A : RA K XX ta a] : RE K XX (tMake C (SpX K fun ds h P _ => D ds h P) [] E ta) (wMakeW C D a) := ⟨fun {N σ H ρ h P Q} S E0 p k =>
  A.run S E0 p fun vs ds H1 h1 t1 S1 r1 p1 x dx hx hdx ne => by
    obtain ⟨t3, S3⟩ := make_sim (C := C) S1.toSim hx hdx ne
    refine ⟨N, _, rf x :: ds, _, _, Sx.noX S3, ?_, p1 x (S1.hn hx), fun v d H4 h4 t4 S4 r4 ⟨e, p4⟩ => ?_⟩
    · rw [List.append_nil]; exact .cons (.rf x) (r1.tr t3)
    · subst e
      exact ⟨r4.n, (k.tr ((t1.trans t3).trans t4)).at (S1.to (t3.trans t4) S4.toSim) (.rf x) p4⟩⟩
instance {D : DX} {C : Addr} {E : XK} {X : Ev' → Addr → List (Str × PyData) → Lh → Prop} {ta : TA} {a : WA} [A : RA K ⟨fun _ => E, X⟩ ta a] : RE K ⟨fun _ => E, X⟩ (tMake C (SpX K D) [] E ta) (wMake C D X a) := ⟨fun {N σ H ρ h P Q} S E0 p k =>
  A.run S E0 p fun vs ds H1 h1 t1 S1 r1 p1 x dx hx hdx ne => by
    obtain ⟨t3, S3⟩ := make_sim (C := C) S1.toSim hx hdx ne
    refine ⟨N, _, rf x :: ds, _, X ρ, (S1.to t3 S3).call (E0.tr (t1.trans t3)), ?_, p1 x (S1.hn hx), fun v d H4 h4 t4 S4 r4 ⟨e, p4⟩ => ?_⟩
    · rw [List.append_nil]; exact .cons (.rf x) (r1.tr t3)
    · subst e
      exact ⟨r4.n, (k.tr ((t1.trans t3).trans t4)).at (S1.to (t3.trans t4) S4.toSim) (.rf x) p4⟩⟩
/-- e.f -/
@[simp] def wFld (K : PySem.W.Frag) (a : WE) (f : Str) : WE := fun ρ h P => a ρ h fun d h1 => ∃ p C fs v, d = rf p ∧ h1 p = some (.ins C fs) ∧ Cls K C ∧ NoAttr K C f ∧ lkD f fs = some v ∧ P v h1
instance {ta : TE} {a : WE} {f : Str} [A : RE K XX ta a] : RE K XX (tFld K ta f) (wFld K a f) := ⟨fun {N σ H ρ h P Q} S E p k =>
  A.run S E p fun v d H1 h1 t1 S1 r1 ⟨q, C, fs, y, e, e2, c1, c2, e3, p1⟩ => by
    obtain ⟨dx, xs, z, pr⟩ := Rl.insH S1 e2
    obtain ⟨w, hw, rw'⟩ := (Paired.lookup pr).2 y e3
    exact ⟨q, C, dx, xs, w, r1.r (a := q) (by rw [e]; exact asR_rf q), z, c1, c2, hw, (k.tr t1).at S1 rw' p1⟩⟩
/-! ### methods of lists -/
class RMW (K : PySem.W.Frag) (r : V → List V → Hp → VK → Prop) (f : outParam (PyData → List PyData → Lh → Wv → Prop)) : Prop where
  run : ∀ {XX : XP} {N : Addr → Prop} {H : Hp} {h : Lh} {x : V} {xs : List V} {d : PyData} {ds : List PyData} {P : Wv} {Q : VK}, Sx K XX N H h → Rl K N H h x d → Rls K N H h xs ds → f d ds h P → Ko K XX N H h P Q → r x xs H Q
@[simp] def wBM (f : PyData → List PyData → Lh → Wv → Prop) (a : WE) (b : WA) : WE := fun ρ h P => a ρ h fun d h1 => (∃ ds, lv h1 d = some ds) ∧ b ρ h1 fun es h2 => f d es h2 P
instance {r : V → List V → Hp → VK → Prop} {f : PyData → List PyData → Lh → Wv → Prop} {ta : TE} {tb : TA} {a : WE} {b : WA} [A : RE K XX ta a] [B : RA K XX tb b] [R : RMW K r f] : RE K XX (tBM K "list" r ta tb) (wBM f a b) := ⟨fun S E p k =>
  A.run S E p fun v d H1 h1 t1 S1 r1 ⟨⟨ds, e⟩, p1⟩ => ⟨by
    obtain ⟨q, xs, rfl, t, _⟩ := r1.lv S1 e
    exact .inl ⟨rfl, xs, t⟩, B.run S1 (E.tr t1) p1 fun vs es H2 h2 t2 S2 r2 p2 => R.run S2 (r1.tr t2) r2 p2 (k.tr (t1.trans t2))⟩⟩
instance {r : V → List V → Hp → VK → Prop} {f : PyData → List PyData → Lh → Wv → Prop} {ta : TE} {a : WE} [A : RE K XX ta a] [R : RMW K r f] : RE K XX (tBM0 K "list" r ta) (wBM f a wNil) := ⟨fun S E p k =>
  A.run S E p fun v d H1 h1 t1 S1 r1 ⟨⟨ds, e⟩, p1⟩ => ⟨by
    obtain ⟨q, xs, rfl, t, _⟩ := r1.lv S1 e
    exact .inl ⟨rfl, xs, t⟩, R.run S1 r1 .nil p1 (k.tr t1)⟩⟩
@[simp] def fApp (d : PyData) (es : List PyData) (h : Lh) (P : Wv) : Prop := ∃ p ds e, d = rf p ∧ es = [e] ∧ h p = some (.lst ds) ∧ ds.length < 100000 ∧ P .none (up h p (.lst (ds ++ [e])))
theorem lst_put {N : Addr → Prop} {H : Hp} {h : Lh} {p : Addr} {ds es : List PyData} {ys : List V} {P : Wv} {Q : VK} {v : V} {d : PyData} (S : Sx K XX N H h) (e : h p = some (.lst ds)) (r : Rls K N H h ys es) (rv : Rl K N H h v d) (k : Ko K XX N H h P Q) (q : P d (up h p (.lst es))) : Q v (L2.upd H p (.lst ys)) := by
  have hp : H p = none ∨ h p ≠ none := .inr (by rw [e]; intro z; cases z)
  have t : Tr H h (L2.upd H p (.lst ys)) (up h p (.lst es)) := Tr.put hp
  exact (k.tr t).at (S.put hp (.lst r)) (rv.tr t) q
instance : RMW K rAppend fApp := ⟨fun S rx rs ⟨p, ds, e, e1, e2, e3, l, q⟩ k => by
  subst e2
  obtain ⟨w, rfl, rw'⟩ := rs.one
  obtain ⟨xs, z, r⟩ := Rl.lvH S e3
  exact ⟨p, xs, w, rx.r (a := p) (by rw [e1]; exact asR_rf p), rfl, z, sz_lt (by rw [r.length]; exact l), lst_put S e3 (r.append (.cons rw' .nil)) .non k q⟩⟩
theorem dropLast_rl {N : Addr → Prop} {H : Hp} {h : Lh} {xs : List V} {ds : List PyData} (r : Rls K N H h xs ds) : Rls K N H h xs.dropLast ds.dropLast := by
  rw [List.dropLast_eq_take, List.dropLast_eq_take, r.length]; exact r.take _
@[simp] def fPop (d : PyData) (es : List PyData) (h : Lh) (P : Wv) : Prop := ∃ p ds e, d = rf p ∧ es = [] ∧ h p = some (.lst ds) ∧ ds[ds.length - 1]? = some e ∧ P e (up h p (.lst ds.dropLast))
instance : RMW K rPop fPop := ⟨fun S rx rs ⟨p, ds, e, e1, e2, e3, l, q⟩ k => by
  subst e2
  cases rs
  obtain ⟨xs, z, r⟩ := Rl.lvH S e3
  obtain ⟨w, hw, rw'⟩ := r.getD l
  exact ⟨p, xs, w, rx.r (a := p) (by rw [e1]; exact asR_rf p), rfl, z, by rw [r.length]; exact hw, lst_put S e3 (dropLast_rl r) rw' k q⟩⟩
theorem eraseIdx_rl {N : Addr → Prop} {H : Hp} {h : Lh} : ∀ {xs : List V} {ds : List PyData} (i : Nat), Rls K N H h xs ds → Rls K N H h (xs.eraseIdx i) (ds.eraseIdx i)
  | _, _, _, .nil => .nil
  | _, _, 0, .cons a b => b
  | _, _, i + 1, .cons a b => .cons a (eraseIdx_rl i b)
@[simp] def fPopAt (d : PyData) (es : List PyData) (h : Lh) (P : Wv) : Prop := ∃ p ds e i k, d = rf p ∧ es = [.int i] ∧ h p = some (.lst ds) ∧ -(2 ^ 63) ≤ i ∧ i < 2 ^ 63 ∧ seqIndex? i ds.length = some k ∧ ds[k]? = some e ∧ P e (up h p (.lst (ds.eraseIdx k)))
instance : RMW K rPopAt fPopAt := ⟨fun S rx rs ⟨p, ds, e, i, k', e1, e2, e3, l1, l2, l3, l4, q⟩ k => by
  subst e2
  obtain ⟨w0, rfl, i0⟩ := rs.one
  obtain ⟨xs, z, r⟩ := Rl.lvH S e3
  obtain ⟨w, hw, rw'⟩ := r.getD l4
  exact ⟨p, xs, i, k', w, rx.r (a := p) (by rw [e1]; exact asR_rf p), by rw [i0.i], z, l1, l2, by rw [r.length]; exact l3, hw, lst_put S e3 (eraseIdx_rl k' r) rw' k q⟩⟩
end
end Wl
set_option Elab.async false
set_option linter.all false
set_option maxRecDepth 100000
set_option maxHeartbeats 2000000
/-! Wd: statements, loops, comprehensions over the plain layer. -/
namespace Wl
open PySem PySem.Spec PyProof.Rows L2 Evl Pd
structure WEnds where
  nx : Ev' → Lh → Prop
  rt : Wv
  bk : Ev' → Lh → Prop := fun _ _ => False
  ct : Ev' → Lh → Prop := fun _ _ => False
abbrev WS := WEnds → Ev' → Lh → Prop
def KoS (K : PySem.W.Frag) (XX : XP) (N : Addr → Prop) (H : Hp) (h : Lh) (P : Ev' → Lh → Prop) (Q : L2.St → Hp → Prop) : Prop := ∀ σ' ρ' H' h', Tr H h H' h' → Sx K XX N H' h' → En K N H' h' σ' ρ' → P ρ' h' → Q σ' H'
theorem KoS.tr {K : PySem.W.Frag} {XX : XP} {N : Addr → Prop} {H H' : Hp} {h h' : Lh} {P : Ev' → Lh → Prop} {Q : L2.St → Hp → Prop} (t : Tr H h H' h') (k : KoS K XX N H h P Q) : KoS K XX N H' h' P Q := fun v d H2 h2 t2 S r p => k v d H2 h2 (t.trans t2) S r p
structure EnK (K : PySem.W.Frag) (XX : XP) (N : Addr → Prop) (H : Hp) (h : Lh) (E : WEnds) (D : Ends) : Prop where
  nx : KoS K XX N H h E.nx D.nx
  rt : Ko K XX N H h E.rt D.rt
  bk : KoS K XX N H h E.bk D.bk
  ct : KoS K XX N H h E.ct D.ct
theorem EnK.tr {K : PySem.W.Frag} {XX : XP} {N : Addr → Prop} {H H' : Hp} {h h' : Lh} {E : WEnds} {D : Ends} (t : Tr H h H' h') (k : EnK K XX N H h E D) : EnK K XX N H' h' E D := ⟨k.nx.tr t, k.rt.tr t, k.bk.tr t, k.ct.tr t⟩
class RS (K : PySem.W.Frag) (XX : XP) (ts : TS) (w : outParam WS) : Prop where
  run : ∀ {N : Addr → Prop} {σ : L2.St} {H : Hp} {ρ : Ev'} {h : Lh} {E : WEnds} {D : Ends}, Sx K XX N H h → En K N H h σ ρ → w E ρ h → EnK K XX N H h E D → ts D σ H
abbrev WG := PyData → Ev' → Lh → (Ev' → Lh → Prop) → Prop
class RG (K : PySem.W.Frag) (XX : XP) (g : TG) (w : outParam WG) : Prop where
  run : ∀ {N : Addr → Prop} {v : V} {d : PyData} {σ : L2.St} {H : Hp} {ρ : Ev'} {h : Lh} {P : Ev' → Lh → Prop} {Q : L2.St → Hp → Prop}, Sx K XX N H h → En K N H h σ ρ → Rl K N H h v d → w d ρ h P → KoS K XX N H h P Q → g v σ H Q
abbrev WGs := List PyData → Ev' → Lh → (Ev' → Lh → Prop) → Prop
class RGs (K : PySem.W.Frag) (XX : XP) (g : TGs) (w : outParam WGs) : Prop where
  run : ∀ {N : Addr → Prop} {v : List V} {d : List PyData} {σ : L2.St} {H : Hp} {ρ : Ev'} {h : Lh} {P : Ev' → Lh → Prop} {Q : L2.St → Hp → Prop}, Sx K XX N H h → En K N H h σ ρ → Rls K N H h v d → w d ρ h P → KoS K XX N H h P Q → g v σ H Q
section
variable {K : PySem.W.Frag} {XX : XP}
/-! ### targets -/
@[simp] def wName (i : Nat) : WG := fun d ρ h P => P (ρ.set i (some d)) h
instance (i : Nat) : RG K XX (gName i) (wName i) := ⟨fun S E r p k => k _ _ _ _ (Tr.refl _ _) S (E.set i r) p⟩
@[simp] def wGNil : WGs := fun ds ρ h P => ds = [] ∧ P ρ h
@[simp] def wGCons (a : WG) (b : WGs) : WGs := fun ds ρ h P => ∃ d es, ds = d :: es ∧ a d ρ h fun ρ1 h1 => b es ρ1 h1 P
instance : RGs K XX gNil wGNil := ⟨fun S E r ⟨e, p⟩ k => by subst e; cases r; exact ⟨rfl, k _ _ _ _ (Tr.refl _ _) S E p⟩⟩
instance {ta : TG} {tb : TGs} {a : WG} {b : WGs} [A : RG K XX ta a] [B : RGs K XX tb b] : RGs K XX (gCons ta tb) (wGCons a b) := ⟨fun S E r ⟨d, es, e, p⟩ k => by
  subst e
  cases r with
  | cons r1 r2 => exact ⟨_, _, rfl, A.run S E r1 p fun σ1 ρ1 H1 h1 t1 S1 E1 p1 => B.run S1 E1 (r2.tr t1) p1 (k.tr t1)⟩⟩
@[simp] def wGTup (n : Nat) (b : WGs) : WG := fun d ρ h P => ∃ ds, tv d = some ds ∧ ds.length = n ∧ b ds ρ h P
instance {tb : TGs} {b : WGs} {n : Nat} [B : RGs K XX tb b] : RG K XX (gTup K n tb) (wGTup n b) := ⟨fun S E r ⟨ds, e, l, p⟩ k => by
  obtain ⟨a, xs, rfl, t, rs⟩ := r.tv e
  exact ⟨a, xs, rfl, t, by rw [rs.length]; exact l, B.run S E rs p k⟩⟩
@[simp] def wGSub (a b : WE) : WG := fun d ρ h P => a ρ h fun o h1 => b ρ h1 fun i h2 => ∃ p ds k j, o = rf p ∧ i = .int k ∧ h2 p = some (.lst ds) ∧ ixN ds.length k = some j ∧ P ρ (up h2 p (.lst (ds.set j d)))
instance {ta tb : TE} {a b : WE} [A : RE K XX ta a] [B : RE K XX tb b] : RG K XX (gSub ta tb rSetL) (wGSub a b) := ⟨fun {N v d σ H ρ h P Q} S E r p k =>
  A.run S E p fun o od H1 h1 t1 S1 r1 p1 => B.run S1 (E.tr t1) p1 fun i id H2 h2 t2 S2 r2 ⟨q, ds, n, j, e1, e2, e3, e4, p2⟩ => by
    subst e2
    obtain ⟨xs, z, rs⟩ := Rl.lvH S2 e3
    have hp : H2 q = none ∨ h2 q ≠ none := .inr (by rw [e3]; intro z; cases z)
    have t := t1.trans t2
    have t3 : Tr H2 h2 (L2.upd H2 q (.lst (xs.set j v))) (up h2 q (.lst (ds.set j d))) := Tr.put hp
    refine ⟨q, xs, n, j, (r1.tr t2).r (a := q) (by rw [e1]; exact asR_rf q), r2.i, z, by rw [rs.length]; exact e4, k _ _ _ _ (t.trans t3) (S2.put hp (.lst (Rls.set (r.tr t) j rs))) (E.tr (t.trans t3)) p2⟩⟩
/-! ### statements -/
@[simp] def wNext : WS := fun E ρ h => E.nx ρ h
@[simp] def wSeq (a b : WS) : WS := fun E ρ h => a { E with nx := b E } ρ h
@[simp] def wBreak : WS := fun E ρ h => E.bk ρ h
@[simp] def wCont : WS := fun E ρ h => E.ct ρ h
@[simp] def wDrop (a : WE) : WS := fun E ρ h => a ρ h fun _ h1 => E.nx ρ h1
@[simp] def wRet (a : WE) : WS := fun E ρ h => a ρ h E.rt
@[simp] def wRetN : WS := fun E _ h => E.rt .none h
@[simp] def wIfS (t : WT) (a b : WS) : WS := fun E ρ h => t ρ h fun c h1 => wCond c (a E ρ h1) (b E ρ h1)
@[simp] def wAsg (a : WE) (g : WG) : WS := fun E ρ h => a ρ h fun d h1 => g d ρ h1 E.nx
@[simp] def wPar (i j : Nat) (a : WA) : WS := fun E ρ h => a ρ h fun ds h1 => ∃ d e, ds = [d, e] ∧ E.nx ((ρ.set i (some d)).set j (some e)) h1
@[simp] def wPar3 (i j l : Nat) (a : WA) : WS := fun E ρ h => a ρ h fun ds h1 => ∃ d e f, ds = [d, e, f] ∧ E.nx (((ρ.set i (some d)).set j (some e)).set l (some f)) h1
instance : RS K XX tNext wNext := ⟨fun S E p k => k.nx _ _ _ _ (Tr.refl _ _) S E p⟩
instance {ta tb : TS} {a b : WS} [A : RS K XX ta a] [B : RS K XX tb b] : RS K XX (tSeq ta tb) (wSeq a b) := ⟨fun S E p k =>
  A.run S E p ⟨fun σ1 ρ1 H1 h1 t1 S1 E1 p1 => B.run S1 E1 p1 (k.tr t1), k.rt, k.bk, k.ct⟩⟩
instance : RS K XX tBreak wBreak := ⟨fun S E p k => k.bk _ _ _ _ (Tr.refl _ _) S E p⟩
instance : RS K XX tCont wCont := ⟨fun S E p k => k.ct _ _ _ _ (Tr.refl _ _) S E p⟩
instance {ta : TE} {a : WE} [A : RE K XX ta a] : RS K XX (tDrop ta) (wDrop a) := ⟨fun S E p k => A.run S E p fun v d H1 h1 t1 S1 r1 p1 => k.nx _ _ _ _ t1 S1 (E.tr t1) p1⟩
instance {ta : TE} {a : WE} [A : RE K XX ta a] : RS K XX (tRet ta) (wRet a) := ⟨fun S E p k => A.run S E p k.rt⟩
instance : RS K XX tRetN wRetN := ⟨fun S E p k => k.rt.at S .non p⟩
instance {tt : TT} {ta tb : TS} {t : WT} {a b : WS} [T : RT K XX tt t] [A : RS K XX ta a] [B : RS K XX tb b] : RS K XX (tIfS tt ta tb) (wIfS t a b) := ⟨fun S E p k => T.run S E p fun c H1 h1 t1 S1 p1 =>
  p1.on (fun q => A.run S1 (E.tr t1) q (k.tr t1)) fun q => B.run S1 (E.tr t1) q (k.tr t1)⟩
instance {ta : TE} {tg : TG} {a : WE} {g : WG} [A : RE K XX ta a] [G : RG K XX tg g] : RS K XX (tAsg ta tg) (wAsg a g) := ⟨fun S E p k => A.run S E p fun v d H1 h1 t1 S1 r1 p1 => G.run S1 (E.tr t1) r1 p1 (k.nx.tr t1)⟩
instance {ta : TA} {a : WA} {i j : Nat} [A : RA K XX ta a] : RS K XX (tPar i j ta) (wPar i j a) := ⟨fun S E p k => A.run S E p fun vs ds H1 h1 t1 S1 r1 ⟨d, e, q, p1⟩ => by
  subst q
  obtain ⟨v, w, rfl, rv, rw'⟩ := r1.two
  exact ⟨v, w, rfl, k.nx _ _ _ _ t1 S1 (((E.tr t1).set i rv).set j rw') p1⟩⟩
instance {ta : TA} {a : WA} {i j l : Nat} [A : RA K XX ta a] : RS K XX (tPar3 i j l ta) (wPar3 i j l a) := ⟨fun S E p k => A.run S E p fun vs ds H1 h1 t1 S1 r1 ⟨d, e, f, q, p1⟩ => by
  subst q
  cases r1 with
  | cons ru r1 =>
    obtain ⟨v, w, rfl, rv, rw'⟩ := r1.two
    exact ⟨_, v, w, rfl, k.nx _ _ _ _ t1 S1 ((((E.tr t1).set i ru).set j rv).set l rw') p1⟩⟩
/-- e.f = v -/
@[simp] def putFD (f : Str) (v : PyData) : List (Str × PyData) → List (Str × PyData)
  | [] => [(f, v)]
  | (g, u) :: r => if g = f then (g, v) :: r else (g, u) :: putFD f v r
theorem Paired.putF {N : Addr → Prop} {H : Hp} {h : Lh} {f : Str} {v : V} {d : PyData} (r : Rl K N H h v d) : ∀ {xs : List (Str × V)} {fs : List (Str × PyData)}, Paired (fun (p : Str × V) (q : Str × PyData) => p.1 = q.1 ∧ Rl K N H h p.2 q.2) xs fs →
    Paired (fun (p : Str × V) (q : Str × PyData) => p.1 = q.1 ∧ Rl K N H h p.2 q.2) (L2.putF f v xs) (putFD f d fs)
  | _, _, .nil => .cons ⟨rfl, r⟩ .nil
  | (k, x) :: xs, (k', d') :: fs, .cons a b => by
    obtain ⟨a1, a2⟩ := a
    cases a1
    unfold L2.putF putFD
    by_cases c : k = f
    · rw [if_pos c, if_pos c]; exact .cons ⟨rfl, r⟩ b
    · rw [if_neg c, if_neg c]; exact .cons ⟨rfl, a2⟩ (Paired.putF r b)
theorem Paired.len {α β : Type} {r : α → β → Prop} : ∀ {xs : List α} {ys : List β}, Paired r xs ys → xs.length = ys.length
  | _, _, .nil => rfl
  | _, _, .cons _ b => by simp [Paired.len b]
@[simp] def wSetFld (K : PySem.W.Frag) (a v : WE) (f : Str) : WS := fun E ρ h => v ρ h fun d h1 => a ρ h1 fun o h2 => ∃ p C fs, o = rf p ∧ h2 p = some (.ins C fs) ∧ Cls K C ∧ NoAttr K C f ∧ fs.length < 1000 ∧ E.nx ρ (up h2 p (.ins C (putFD f d fs)))
instance {ta tv : TE} {a v : WE} {f : Str} [A : RE K XX ta a] [B : RE K XX tv v] : RS K XX (sFld K ta tv f) (wSetFld K a v f) := ⟨fun {N σ H ρ h E D} S En p k =>
  B.run S En p fun y d H1 h1 t1 S1 r1 p1 => A.run S1 (En.tr t1) p1 fun x o H2 h2 t2 S2 r2 ⟨q, C, fs, e, e2, c1, c2, l, p2⟩ => by
    obtain ⟨dx, xs, z, pr⟩ := Rl.insH S2 e2
    have hp : H2 q = none ∨ h2 q ≠ none := .inr (by rw [e2]; intro z; cases z)
    have t := t1.trans t2
    have t3 : Tr H2 h2 (L2.upd H2 q (.ins C dx (L2.putF f y xs))) (up h2 q (.ins C (putFD f d fs))) := Tr.put hp
    exact ⟨q, C, dx, xs, r2.r (a := q) (by rw [e]; exact asR_rf q), z, c1, c2, by rw [Paired.len pr]; exact l, k.nx _ _ _ _ (t.trans t3) (S2.put hp (.ins (Paired.putF (r1.tr t2) pr))) (En.tr (t.trans t3)) p2⟩⟩
/-! ### what is walked -/
abbrev WI := Ev' → Lh → (List PyData → (Lh → Prop) → Lh → Prop) → Prop
class RI (K : PySem.W.Frag) (XX : XP) (wi : TI) (w : outParam WI) : Prop where
  run : ∀ {N : Addr → Prop} {σ : L2.St} {H : Hp} {ρ : Ev'} {h : Lh} {P : List PyData → (Lh → Prop) → Lh → Prop} {R : It → Hp → Prop}, Sx K XX N H h → En K N H h σ ρ → w ρ h P →
    (∀ (J : It) (H2 : Hp) (h2 : Lh) (ds : List PyData) (keep : Lh → Prop) (G : Hp → Prop) (Y : Nat → Hp → V → Hp → Prop), Tr H h H2 h2 → Sx K XX N H2 h2 → P ds keep h2 → Walk J ds.length G Y →
      (∀ (N' : Addr → Prop) (H3 : Hp) (h3 : Lh), (∀ a, N' a → N a ∨ H2 a = none) → Tr H2 h2 H3 h3 → Sx K XX N' H3 h3 → keep h3 → G H3) →
      (∀ (N' : Addr → Prop) (i : Nat) (H3 : Hp) (h3 : Lh) (x : V) (H4 : Hp), (∀ a, N' a → N a ∨ H2 a = none) → Tr H2 h2 H3 h3 → Sx K XX N' H3 h3 → keep h3 → Y i H3 x H4 → ∃ d, ds[i]? = some d ∧ Tr H3 h3 H4 h3 ∧ Ex H3 H4 ∧ Sx K XX N' H4 h3 ∧ Rl K N' H4 h3 x d) → R J H2) → wi σ H R
@[simp] def wITup (a : WE) : WI := fun ρ h P => a ρ h fun d h1 => ∃ ds, tv d = some ds ∧ P ds (fun _ => True) h1
theorem Rl.tup' {N : Addr → Prop} {H : Hp} {h : Lh} {v : V} {d : PyData} {ds : List PyData} (r : Rl K N H h v d) (e : Wl.tv d = some ds) : ∃ a xs, v = .ref a ∧ Tu K N H h a xs ∧ Rls K N H h xs ds := by
  unfold Wl.tv at e
  split at e
  · cases e; exact r.t
  · cases e
theorem Tu.tr {N N' : Addr → Prop} {H H' : Hp} {h h' : Lh} {a : Addr} {xs : List V} (t : Tr H h H' h') (u : Tu K N H h a xs) : SqT K H' a xs := by
  rcases u with u | u
  · exact SqT.of (t.k _ _ u.1 u.2.1).1
  · exact .inr u
instance {ta : TE} {a : WE} [A : RE K XX ta a] : RI K XX (iTup K ta) (wITup a) := ⟨fun {N σ H ρ h P R} S E p k => A.run S E p fun v d H1 h1 t1 S1 r1 ⟨ds, e, p1⟩ => by
  obtain ⟨q, xs, rfl, t, rs⟩ := r1.tup' e
  refine ⟨q, rfl, ⟨xs, t.sq⟩, k _ H1 h1 ds _ (fun H => SqT K H q xs) (YAt xs) t1 S1 p1 (by rw [← rs.length]; exact walk_tup) (fun N' H3 h3 _ t3 _ _ => t.tr (N' := N) t3) fun N' i H3 h3 x H4 hN t3 S3 _ yy => ?_⟩
  obtain ⟨rfl, hx⟩ := yy
  obtain ⟨d, hd, r⟩ := rs.get hx
  exact ⟨d, hd, Tr.refl _ _, Ex.refl _, S3, (r.hid hN).tr t3⟩⟩
@[simp] def wIList (a : WE) : WI := fun ρ h P => a ρ h fun d h1 => ∃ ds, lv h1 d = some ds ∧ P ds (fun h3 => lv h3 d = some ds) h1
theorem walkL {a : Addr} {n : Nat} : Walk (Itl K a) n (fun H => ∃ xs, SqL K H a xs ∧ xs.length = n) (fun i H x H' => H' = H ∧ ∀ xs, SqL K H a xs → xs[i]? = some x) :=
  ⟨fun i H hi ⟨xs, s, l⟩ => ⟨xs, xs[i]'(by omega), s, by simp [show i < xs.length by omega]⟩, fun H ⟨xs, s, l⟩ => ⟨xs, s, by omega⟩, fun i H x H' hi _ y => y⟩
instance {ta : TE} {a : WE} [A : RE K XX ta a] : RI K XX (iList K ta) (wIList a) := ⟨fun {N σ H ρ h P R} S E p k => A.run S E p fun v d H1 h1 t1 S1 r1 ⟨ds, e, p1⟩ => by
  obtain ⟨q, xs, rfl, t, rs⟩ := r1.lv S1 e
  have at3 : ∀ (N' : Addr → Prop) (H3 : Hp) (h3 : Lh), (∀ a, N' a → N a ∨ H1 a = none) → Tr H1 h1 H3 h3 → Sx K XX N' H3 h3 → lv h3 d = some ds → ∃ ys, SqL K H3 q ys ∧ Rls K N' H3 h3 ys ds := fun N' H3 h3 hN t3 S3 e3 => by
    obtain ⟨q', ys, e', z, r3⟩ := ((r1.hid hN).tr t3).lv S3 e3
    cases e'
    exact ⟨ys, z, r3⟩
  refine ⟨q, rfl, ⟨xs, t⟩, k _ H1 h1 ds _ (fun H => ∃ xs, SqL K H q xs ∧ xs.length = ds.length) (fun i H x H' => H' = H ∧ ∀ xs, SqL K H q xs → xs[i]? = some x) t1 S1 p1 walkL (fun N' H3 h3 hN t3 S3 kp => ?_) fun N' i H3 h3 x H4 hN t3 S3 kp yy => ?_⟩
  · obtain ⟨ys, z, r3⟩ := at3 N' H3 h3 hN t3 S3 kp
    exact ⟨ys, z, r3.length⟩
  · obtain ⟨ys, z, r3⟩ := at3 N' H3 h3 hN t3 S3 kp
    obtain ⟨rfl, hx⟩ := yy
    obtain ⟨d', hd, r⟩ := r3.get (hx ys z)
    exact ⟨d', hd, Tr.refl _ _, Ex.refl _, S3, r⟩⟩
@[simp] def wIStr (a : WE) : WI := fun ρ h P => a ρ h fun d h1 => ∃ z, d = .str z ∧ P (Pd.signs z) (fun _ => True) h1
instance {ta : TE} {a : WE} [A : RE K XX ta a] : RI K XX (iStr ta) (wIStr a) := ⟨fun {N σ H ρ h P R} S E p k => A.run S E p fun v d H1 h1 t1 S1 r1 ⟨z, e, p1⟩ => by
  subst e
  refine ⟨z, r1.s, k _ H1 h1 (Pd.signs z) _ (fun _ => True) (fun i H v H' => H' = H ∧ ∃ c, z.cps[i]? = some c ∧ v = .str ⟨#[c]⟩) t1 S1 p1 (by
    have : (Pd.signs z).length = z.cps.size := by simp [Pd.signs]
    rw [this]; exact walk_str) (fun _ _ _ _ _ _ _ => trivial) fun N' i H3 h3 x H4 hN t3 S3 _ yy => ?_⟩
  obtain ⟨rfl, c, hc, rfl⟩ := yy
  refine ⟨.str ⟨#[c]⟩, ?_, Tr.refl _ _, Ex.refl _, S3, .str _⟩
  unfold Pd.signs
  rw [List.getElem?_map]
  have : z.cps.toList[i]? = some c := by simpa using hc
  rw [this]; rfl⟩
def rgD (i j : Int) : List PyData := (List.range (j - i).toNat).map fun k => .int (i + (k : Nat))
theorem rgD_len (i j : Int) : (rgD i j).length = (j - i).toNat := by simp [rgD]
theorem rgD_at {i j : Int} {k : Nat} (h : k < (j - i).toNat) : (rgD i j)[k]? = some (.int (i + (k : Nat))) := by simp [rgD, h]
theorem walkR {lo : Int} {n : Nat} : Walk (Itr lo n) n (fun _ => True) (fun i H x H' => i < n ∧ H' = H ∧ x = .int (lo + i)) :=
  ⟨fun i H hi _ => hi, fun H _ => Nat.le_refl _, fun i H x H' hi _ y => ⟨hi, y.1, y.2⟩⟩
@[simp] def wIRng1 (a : WA) : WI := fun ρ h P => a ρ h fun ds h1 => ∃ j, ds = [.int j] ∧ -100000000 ≤ j ∧ j ≤ 100000000 ∧ P (rgD 0 j) (fun _ => True) h1
instance {ta : TA} {a : WA} [A : RA K XX ta a] : RI K XX (iRng1 ta) (wIRng1 a) := ⟨fun {N σ H ρ h P R} S E p k => A.run S E p fun vs ds H1 h1 t1 S1 r1 ⟨j, e, l1, l2, p1⟩ => by
  subst e
  obtain ⟨v, rfl, i⟩ := r1.one
  refine ⟨j, by rw [i.i], by omega, by omega, k _ H1 h1 (rgD 0 j) _ (fun _ => True) (fun i H x H' => i < j.toNat ∧ H' = H ∧ x = .int (0 + i)) t1 S1 p1 (by rw [rgD_len, Int.sub_zero]; exact walkR) (fun _ _ _ _ _ _ _ => trivial) fun N' i H3 h3 x H4 hN t3 S3 _ yy => ?_⟩
  obtain ⟨hi, rfl, rfl⟩ := yy
  exact ⟨_, rgD_at (by rw [Int.sub_zero]; exact hi), Tr.refl _ _, Ex.refl _, S3, .int _⟩⟩
@[simp] def wIRng2 (a : WA) : WI := fun ρ h P => a ρ h fun ds h1 => ∃ i j, ds = [.int i, .int j] ∧ -100000000 ≤ i ∧ i ≤ 100000000 ∧ -100000000 ≤ j ∧ j ≤ 100000000 ∧ P (rgD i j) (fun _ => True) h1
instance {ta : TA} {a : WA} [A : RA K XX ta a] : RI K XX (iRng2 ta) (wIRng2 a) := ⟨fun {N σ H ρ h P R} S E p k => A.run S E p fun vs ds H1 h1 t1 S1 r1 ⟨i, j, e, l1, l2, l3, l4, p1⟩ => by
  subst e
  obtain ⟨v, w, rfl, iv, iw⟩ := r1.two
  refine ⟨i, j, by rw [iv.i, iw.i], ⟨by omega, by omega, by omega, by omega⟩, k _ H1 h1 (rgD i j) _ (fun _ => True) (fun n H x H' => n < (j - i).toNat ∧ H' = H ∧ x = .int (i + n)) t1 S1 p1 (by rw [rgD_len]; exact walkR) (fun _ _ _ _ _ _ _ => trivial) fun N' n H3 h3 x H4 hN t3 S3 _ yy => ?_⟩
  obtain ⟨hi, rfl, rfl⟩ := yy
  exact ⟨_, rgD_at hi, Tr.refl _ _, Ex.refl _, S3, .int _⟩⟩
/-! ### loops -/
@[simp] def forL (keep : Lh → Prop) (g : WG) (b : WS) (E : WEnds) : List PyData → Ev' → Lh → Prop
  | [], ρ, h => keep h ∧ E.nx ρ h
  | d :: ds, ρ, h => keep h ∧ g d ρ h fun ρ1 h1 => b { nx := forL keep g b E ds, rt := E.rt, bk := E.nx, ct := forL keep g b E ds } ρ1 h1
@[simp] def wFor (s : WI) (g : WG) (b : WS) : WS := fun E ρ h => s ρ h fun ds keep h1 => forL keep g b E ds ρ h1
theorem forL_keep {keep : Lh → Prop} {g : WG} {b : WS} {E : WEnds} {ds : List PyData} {ρ : Ev'} {h : Lh} (p : forL keep g b E ds ρ h) : keep h := by
  cases ds <;> exact p.1
instance {ti : TI} {tg : TG} {tb : TS} {s : WI} {g : WG} {b : WS} [I : RI K XX ti s] [G : RG K XX tg g] [B : RS K XX tb b] : RS K XX (tFor ti tg tb) (wFor s g b) := ⟨fun {N σ H ρ h E D} S En0 p k =>
  I.run S En0 p fun J H2 h2 ds keep Gd Y t2 S2 p2 W hG hY => by
    refine for_it W (fun i σ' H' => ∃ ρ' h', Tr H2 h2 H' h' ∧ Sx K XX N H' h' ∧ En K N H' h' σ' ρ' ∧ forL keep g b E (ds.drop i) ρ' h') ⟨ρ, h2, Tr.refl _ _, S2, En0.tr t2, p2⟩ (fun i σ' H' _ ⟨ρ', h', t', S', E', p'⟩ => hG N H' h' (fun a z => .inl z) t' S' (forL_keep p')) (fun i x σ' H' H4 hi ⟨ρ', h', t', S', E', p'⟩ y => ?_) fun σ' H' ⟨ρ', h', t', S', E', p'⟩ => ?_
    · obtain ⟨d, hd, t4, _, S4, r4⟩ := hY N i H' h' x H4 (fun a z => .inl z) t' S' (forL_keep p') y
      have hdr : ds.drop i = d :: ds.drop (i + 1) := by
        have hl : i < ds.length := hi
        rw [List.drop_eq_getElem_cons hl]
        have : ds[i] = d := by simpa [hl] using hd
        rw [this]
      rw [hdr] at p'
      refine G.run S4 (E'.tr t4) r4 p'.2 fun σ5 ρ5 H5 h5 t5 S5 E5 p5 => B.run S5 E5 p5 ⟨?_, ?_, ?_, ?_⟩
      · exact fun σ6 ρ6 H6 h6 t6 S6 E6 p6 => ⟨ρ6, h6, ((t'.trans t4).trans t5).trans t6, S6, E6, p6⟩
      · exact k.rt.tr (((t2.trans t').trans t4).trans t5)
      · exact k.nx.tr (((t2.trans t').trans t4).trans t5)
      · exact fun σ6 ρ6 H6 h6 t6 S6 E6 p6 => ⟨ρ6, h6, ((t'.trans t4).trans t5).trans t6, S6, E6, p6⟩
    · rw [List.drop_length] at p'
      exact k.nx _ _ _ _ (t2.trans t') S' E' p'.2⟩
def whN (t : WT) (b : WS) (E : WEnds) : Nat → Ev' → Lh → Prop
  | 0, _, _ => False
  | n + 1, ρ, h => t ρ h fun c h1 => wCond c (b { nx := whN t b E n, rt := E.rt, bk := E.nx, ct := whN t b E n } ρ h1) (E.nx ρ h1)
def wWhile (t : WT) (b : WS) : WS := fun E ρ h => ∃ n, whN t b E n ρ h
instance {tt : TT} {tb : TS} {t : WT} {b : WS} [T : RT K XX tt t] [B : RS K XX tb b] : RS K XX (tWhile tt tb) (wWhile t b) := ⟨fun {N σ H ρ h E D} S En0 ⟨n, p⟩ k => by
  refine ⟨fun m σ' H' => ∃ ρ' h', Tr H h H' h' ∧ Sx K XX N H' h' ∧ En K N H' h' σ' ρ' ∧ whN t b E m ρ' h', ⟨n, ρ, h, Tr.refl _ _, S, En0, p⟩, ?_⟩
  rintro m σ' H' ⟨ρ', h', t', S', E', p'⟩
  cases m with
  | zero => exact p'.elim
  | succ m =>
    refine T.run S' E' p' fun c H1 h1 t1 S1 p1 => p1.on (fun q => ?_) fun q => k.nx _ _ _ _ (t'.trans t1) S1 (E'.tr t1) q
    refine ⟨fun σ2 H2 => ∃ ρ2 h2, Tr H h H2 h2 ∧ Sx K XX N H2 h2 ∧ En K N H2 h2 σ2 ρ2 ∧ whN t b E m ρ2 h2, fun σ2 H2 z => ⟨m, Nat.lt_succ_self m, z⟩, B.run S1 (E'.tr t1) q ⟨?_, ?_, ?_, ?_⟩⟩
    · exact fun σ6 ρ6 H6 h6 t6 S6 E6 p6 => ⟨ρ6, h6, (t'.trans t1).trans t6, S6, E6, p6⟩
    · exact k.rt.tr (t'.trans t1)
    · exact k.nx.tr (t'.trans t1)
    · exact fun σ6 ρ6 H6 h6 t6 S6 E6 p6 => ⟨ρ6, h6, (t'.trans t1).trans t6, S6, E6, p6⟩⟩
end
end Wl
set_option Elab.async false
set_option linter.all false
set_option maxRecDepth 100000
set_option maxHeartbeats 2000000
/-! We: comprehensions, enumerate, zip over the plain layer. -/
namespace Wl
open PySem PySem.Spec PyProof.Rows L2 Evl Pd
theorem wipe_at (σ : L2.St) (i : Nat) : ∀ vs, (wipe σ vs)[i]? = if i ∈ vs then (if i < σ.length then some none else none) else σ[i]?
  | [] => by simp [wipe]
  | v :: vs => by
    have ih := wipe_at σ i vs
    unfold wipe
    rw [List.getElem?_set, ih, wipe_length]
    by_cases c : v = i
    · subst c; simp
    · have c' : ¬ i = v := fun z => c z.symm
      rw [if_neg c]
      simp only [List.mem_cons, c', false_or]
theorem wipe_twice (σ : L2.St) (vs : List Nat) : wipe (wipe σ vs) vs = wipe σ vs := by
  apply List.ext_getElem?
  intro i
  rw [wipe_at, wipe_at, wipe_length]
  by_cases c : i ∈ vs
  · rw [if_pos c, if_pos c]
  · rw [if_neg c, if_neg c]
theorem wipe_set {σ : L2.St} {j : Nat} {y : Option V} {vs : List Nat} (h : j ∈ vs) : wipe (σ.set j y) vs = wipe σ vs := by
  apply List.ext_getElem?
  intro i
  rw [wipe_at, wipe_at, List.length_set]
  by_cases c : i ∈ vs
  · rw [if_pos c, if_pos c]
  · rw [if_neg c, if_neg c, List.getElem?_set_ne (fun z => c (by rw [← z]; exact h))]
/-- j is among the names of a comprehension -/
class MemO (j : Nat) (vs : List Nat) : Prop where
  mem : j ∈ vs
instance (j : Nat) (s : Str) (l : List (Str × Nat)) : MemO j (((s, j) :: l).map (·.2)) := ⟨by simp⟩
instance (j : Nat) (p : Str × Nat) (l : List (Str × Nat)) [M : MemO j (l.map (·.2))] : MemO j ((p :: l).map (·.2)) := ⟨by
  rw [List.map_cons]; exact List.mem_cons_of_mem _ M.mem⟩
class RGC (K : PySem.W.Frag) (XX : XP) (vs : List Nat) (g : TG) (w : outParam WG) : Prop where
  run : ∀ {N : Addr → Prop} {v : V} {d : PyData} {σ : L2.St} {H : Hp} {ρ : Ev'} {h : Lh} {P : Ev' → Lh → Prop} {Q : L2.St → Hp → Prop}, Sx K XX N H h → En K N H h σ ρ → Rl K N H h v d → w d ρ h P →
    (∀ σ' ρ', En K N H h σ' ρ' → wipe σ' vs = wipe σ vs → P ρ' h → Q σ' H) → g v σ H Q
class RGsC (K : PySem.W.Frag) (XX : XP) (vs : List Nat) (g : TGs) (w : outParam WGs) : Prop where
  run : ∀ {N : Addr → Prop} {v : List V} {d : List PyData} {σ : L2.St} {H : Hp} {ρ : Ev'} {h : Lh} {P : Ev' → Lh → Prop} {Q : L2.St → Hp → Prop}, Sx K XX N H h → En K N H h σ ρ → Rls K N H h v d → w d ρ h P →
    (∀ σ' ρ', En K N H h σ' ρ' → wipe σ' vs = wipe σ vs → P ρ' h → Q σ' H) → g v σ H Q
section
variable {K : PySem.W.Frag} {XX : XP} {vs : List Nat}
instance (i : Nat) [M : MemO i vs] : RGC K XX vs (gName i) (wName i) := ⟨fun S E r p k => k _ _ (E.set i r) (wipe_set M.mem) p⟩
instance : RGsC K XX vs gNil wGNil := ⟨fun S E r ⟨e, p⟩ k => by subst e; cases r; exact ⟨rfl, k _ _ E rfl p⟩⟩
instance {ta : TG} {tb : TGs} {a : WG} {b : WGs} [A : RGC K XX vs ta a] [B : RGsC K XX vs tb b] : RGsC K XX vs (gCons ta tb) (wGCons a b) := ⟨fun S E r ⟨d, es, e, p⟩ k => by
  subst e
  cases r with
  | cons r1 r2 => exact ⟨_, _, rfl, A.run S E r1 p fun σ1 ρ1 E1 w1 p1 => B.run S E1 r2 p1 fun σ2 ρ2 E2 w2 p2 => k _ _ E2 (w2.trans w1) p2⟩⟩
instance {tb : TGs} {b : WGs} {n : Nat} [B : RGsC K XX vs tb b] : RGC K XX vs (gTup K n tb) (wGTup n b) := ⟨fun S E r ⟨ds, e, l, p⟩ k => by
  obtain ⟨a, xs, rfl, t, rs⟩ := r.tv e
  exact ⟨a, xs, rfl, t, by rw [rs.length]; exact l, B.run S E rs p k⟩⟩
/-! ### comprehensions -/
@[simp] def lcL (keep : Lh → Prop) (g : WG) (t : WT) (e : WE) (ρ : Ev') (P : List PyData → Lh → Prop) : List PyData → List PyData → Lh → Prop
  | [], acc, h => keep h ∧ P acc h
  | d :: ds, acc, h => keep h ∧ acc.length < 100000 ∧ g d ρ h fun ρ1 h1 => t ρ1 h1 fun b h2 => wCond b (e ρ1 h2 fun x h3 => lcL keep g t e ρ P ds (acc ++ [x]) h3) (lcL keep g t e ρ P ds acc h2)
@[simp] def wLc (s : WI) (g : WG) (t : WT) (e : WE) (vs : List Nat) : WA := fun ρ h P => s ρ h fun ds keep h1 => lcL keep g t e (wipeD ρ vs) P ds [] h1
theorem lcL_keep {keep : Lh → Prop} {g : WG} {t : WT} {e : WE} {ρ : Ev'} {P : List PyData → Lh → Prop} {ds acc : List PyData} {h : Lh} (p : lcL keep g t e ρ P ds acc h) : keep h := by
  cases ds <;> exact p.1
theorem Sim.hidUpd {N : Addr → Prop} {H : Hp} {h : Lh} {p : Addr} {u : HO} (S : Sim K N H h) (n : N p) (nt : ∀ xs, u ≠ .tup xs := by intro _ z; cases z) : Sim K N (L2.upd H p u) h := by
  have f : ∀ a o, H a = some o → h a = none → ¬ N a → L2.upd H p u a = some o ∧ h a = none ∧ ¬ N a := fun a o e1 e2 e3 => ⟨by rw [upd_ne (fun z => e3 (by rw [z]; exact n))]; exact e1, e2, e3⟩
  refine ⟨fun a o q => ?_, fun a z => ?_⟩
  · obtain ⟨n', u', e, k⟩ := S.at_ a o q
    exact ⟨n', u', by rw [upd_ne (fun z => n' (by rw [z]; exact n))]; exact e, k.mono (fun v d => Rl.trN f) (fun v d => Rls.trN f)⟩
  · by_cases c : a = p
    · subst c; exact ⟨u, upd_same, nt⟩
    · rw [upd_ne c]; exact S.hid a z
instance {ti : TI} {tg : TG} {tt : TT} {te : TE} {s : WI} {g : WG} {t : WT} {e : WE} [I : RI K XX ti s] [G : RGC K XX vs tg g] [T : RT K XX tt t] [E : RE K XX te e] : RN K XX (tLc ti tg tt te vs) (wLc s g t e vs) := ⟨fun {N σ H ρ h P Q} S En0 p k =>
  I.run S En0 p fun J H2 h2 ds keep Gd Y t2 S2 p2 W hG hY D hD => by
    have hN : ∀ a, (N a ∨ a = D) → N a ∨ H2 a = none := fun a z => z.imp id fun e => by rw [e]; exact hD
    have hD0 : H D = none := t2.n D hD
    have hN0 : ∀ a, (N a ∨ a = D) → N a ∨ H a = none := fun a z => z.imp id fun e => by rw [e]; exact hD0
    have tN : Tr H2 h2 (L2.upd H2 D (.lst [])) h2 := Tr.new hD
    refine lc_it W (fun i H' => ∃ h' acc accd, H' D = some (.lst acc) ∧ Tr H2 h2 H' h' ∧ Sx K XX (fun a => N a ∨ a = D) H' h' ∧ Rls K (fun a => N a ∨ a = D) H' h' acc accd ∧ lcL keep g t e (wipeD ρ vs) P (ds.drop i) accd h')
      ⟨h2, [], [], upd_same, tN, S2.more hD, .nil, p2⟩ (fun i H' _ ⟨h', acc, accd, q1, q2, q3, q4, q5⟩ => hG _ H' h' hN q2 q3 (lcL_keep q5)) (fun i x H' H4 hi ⟨h', acc, accd, q1, q2, q3, q4, q5⟩ y => ?_) fun H' ⟨h', acc, accd, q1, q2, q3, q4, q5⟩ => ?_
    · obtain ⟨d, hd, t4, _, S4, r4⟩ := hY _ i H' h' x H4 hN q2 q3 (lcL_keep q5) y
      have hdr : ds.drop i = d :: ds.drop (i + 1) := by
        have hl : i < ds.length := hi
        rw [List.drop_eq_getElem_cons hl]
        have : ds[i] = d := by simpa [hl] using hd
        rw [this]
      rw [hdr] at q5
      have E4 : En K (fun a => N a ∨ a = D) H4 h' (wipe σ vs) (wipeD ρ vs) := (((En0.mono (fun v d => Rl.hid hN0)).tr (t2.trans (q2.trans t4)))).wipe vs
      have hDn : ∀ {H' : Hp} {h' : Lh}, Sx K XX (fun a => N a ∨ a = D) H' h' → h' D = none := fun {H' h'} S' => by
        cases z : h' D with
        | none => rfl
        | some o => exact absurd (.inr rfl) (S'.at_ D o z).1
      refine G.run S4 E4 r4 q5.2.2 fun σ5 ρ5 E5 w5 p5 => ⟨by rw [w5, wipe_twice], T.run S4 E5 p5 fun b H6 h6 t6 S6 p6 => p6.on (fun z => ?_) fun z => ?_⟩
      · refine E.run S6 (E5.tr t6) z fun v d7 H7 h7 t7 S7 r7 p7 => ?_
        have tt := (t4.trans t6).trans t7
        have q17 : H7 D = some (.lst acc) := (tt.k D _ q1 (hDn q3)).1
        have tD : Tr H2 h2 (L2.upd H7 D (.lst (acc ++ [v]))) h7 := ⟨fun a o e1 e2 => by
          have ne : a ≠ D := fun z => by rw [z, hD] at e1; cases e1
          obtain ⟨z1, z2⟩ := (q2.trans tt).k a o e1 e2
          exact ⟨by rw [upd_ne ne]; exact z1, z2⟩, fun a e1 => (q2.trans tt).n a (upd_none e1)⟩
        refine ⟨acc, q17, sz_lt (by rw [q4.length]; exact q5.2.1), h7, acc ++ [v], accd ++ [d7], upd_same, tD, ⟨S7.toSim.hidUpd (.inr rfl), (S2.x.tr tD).hid fun a z => .inl z⟩, ?_, p7⟩
        · have f : ∀ a o, H7 a = some o → h7 a = none → ¬ (N a ∨ a = D) → L2.upd H7 D (.lst (acc ++ [v])) a = some o ∧ h7 a = none ∧ ¬ (N a ∨ a = D) := fun a o e1 e2 e3 => ⟨by rw [upd_ne (fun z => e3 (.inr z))]; exact e1, e2, e3⟩
          exact ((q4.tr tt).trN f).append (.cons (r7.trN f) .nil)
      · have tt := t4.trans t6
        exact ⟨h6, acc, accd, (tt.k D _ q1 (hDn q3)).1, q2.trans tt, S6, q4.tr tt, z⟩
    · rw [List.drop_length] at q5
      exact k D acc accd H' h' hD0 (t2.trans q2) q3 q1 q4 q5.2⟩
/-! ### enumerate, zip -/
@[simp] def wIEnum (a : WA) : WI := fun ρ h P => a ρ h fun es h1 => ∃ d ds, es = [d] ∧ lv h1 d = some ds ∧ P (Pd.numbered 0 ds) (fun h3 => lv h3 d = some ds) h1
instance {ta : TA} {a : WA} [A : RA K XX ta a] : RI K XX (iEnum K ta) (wIEnum a) := ⟨fun {N σ H ρ h P R} S E p k => A.run S E p fun vs es H1 h1 t1 S1 r1 ⟨d, ds, e0, e, p1⟩ => by
  subst e0
  obtain ⟨v, rfl, rv⟩ := r1.one
  obtain ⟨q, xs, rfl, t, rs⟩ := rv.lv S1 e
  have at3 : ∀ (N' : Addr → Prop) (H3 : Hp) (h3 : Lh), (∀ a, N' a → N a ∨ H1 a = none) → Tr H1 h1 H3 h3 → Sx K XX N' H3 h3 → lv h3 d = some ds → ∃ ys, SqL K H3 q ys ∧ Rls K N' H3 h3 ys ds := fun N' H3 h3 hN t3 S3 e3 => by
    obtain ⟨q', ys, e', z, r3⟩ := ((rv.hid hN).tr t3).lv S3 e3
    cases e'
    exact ⟨ys, z, r3⟩
  refine ⟨q, xs, rfl, t, k _ H1 h1 (Pd.numbered 0 ds) _ (fun H => ∃ xs, SqL K H q xs ∧ xs.length = ds.length) (fun i H v H' => ∃ T x, v = .ref T ∧ H T = none ∧ H' = upd H T (.tup [.int (i : Nat), x]) ∧ ∀ xs, SqL K H q xs → xs[i]? = some x) t1 S1 p1 (by
    rw [Pd.numbered_length]
    exact ⟨fun i H hi ⟨xs, s, l⟩ => ⟨xs, xs[i]'(by omega), s, by simp [show i < xs.length by omega]⟩, fun H ⟨xs, s, l⟩ => ⟨xs, s, by omega⟩, fun i H x H' hi _ y => y⟩) (fun N' H3 h3 hN t3 S3 kp => ?_) fun N' i H3 h3 x H4 hN t3 S3 kp yy => ?_⟩
  · obtain ⟨ys, z, r3⟩ := at3 N' H3 h3 hN t3 S3 kp
    exact ⟨ys, z, r3.length⟩
  · obtain ⟨ys, z, r3⟩ := at3 N' H3 h3 hN t3 S3 kp
    obtain ⟨T, y, rfl, hT, rfl, hx⟩ := yy
    obtain ⟨d', hd, r⟩ := r3.get (hx ys z)
    have := Pd.numbered_get ds 0 i d' hd
    rw [Nat.zero_add] at this
    exact ⟨_, this, Tr.new hT, Ex.new hT, S3.new hT, .tup (.inl ⟨upd_same, S3.hn hT, S3.nn hT⟩) (.cons (.int _) (.cons (r.tr (Tr.new hT)) .nil))⟩⟩
@[simp] def wIZipS (a : WA) : WI := fun ρ h P => a ρ h fun es h1 => ∃ z d ds, es = [.str z, d] ∧ tv d = some ds ∧ z.cps.all (· < 128) = true ∧ z.cps.size = ds.length ∧ P (Pd.pairs (Pd.signs z) ds) (fun _ => True) h1
instance {ta : TA} {a : WA} [A : RA K XX ta a] : RI K XX (iZipS K ta) (wIZipS a) := ⟨fun {N σ H ρ h P R} S E p k => A.run S E p fun vs es H1 h1 t1 S1 r1 ⟨z, d, ds, e0, e, hasc, hl, p1⟩ => by
  subst e0
  obtain ⟨v, u, rfl, rv, ru⟩ := r1.two
  obtain ⟨q, xs, rfl, t, rs⟩ := ru.tup' e
  have hn : (Pd.pairs (Pd.signs z) ds).length = xs.length := by simp [Pd.pairs, Pd.signs, rs.length, hl]
  refine ⟨z, q, xs, by rw [rv.s], hasc, t.sq, k _ H1 h1 _ _ (fun H => SqT K H q xs) _ t1 S1 p1 (by rw [hn]; exact walk_zipS (by rw [rs.length]; exact hl)) (fun N' H3 h3 _ t3 _ _ => t.tr (N' := N) t3) fun N' i H3 h3 x H4 hN t3 S3 _ yy => ?_⟩
  obtain ⟨T, c, y, rfl, hT, rfl, hc, hy⟩ := yy
  obtain ⟨d', hd, r⟩ := rs.get hy
  refine ⟨.tuple [.str ⟨#[c]⟩, d'], ?_, Tr.new hT, Ex.new hT, S3.new hT, .tup (.inl ⟨upd_same, S3.hn hT, S3.nn hT⟩) (.cons (.str _) (.cons (((r.hid hN).tr t3).tr (Tr.new hT)) .nil))⟩
  have hs : (Pd.signs z)[i]? = some (.str ⟨#[c]⟩) := by
    unfold Pd.signs
    rw [List.getElem?_map]
    have : z.cps.toList[i]? = some c := by simpa using hc
    rw [this]; rfl
  unfold Pd.pairs
  rw [List.getElem?_map, Pd.zip_get hs hd]; rfl⟩
end
end Wl
set_option Elab.async false
set_option linter.all false
set_option maxRecDepth 100000
set_option maxHeartbeats 2000000
/-! Wf: defs over the plain layer. -/
namespace Wl
open PySem PySem.Spec PyProof.Rows L2 Evl Pd
section
variable {K : PySem.W.Frag} {XX : XP}
theorem SpX.enter {D : DX} {t : TS} {w : (Ev' → Addr → List (Str × PyData) → Lh → Prop) → WS} {E : XK} [R : ∀ X, RS K ⟨fun _ => E, X⟩ t (w X)] {vs : List V} {H : Hp} {Q : VK} {NM : List Str} (hs : SpX K D vs H Q E) (hw : ∀ ds h P X, D ds h P X → w (fun _ => X) { nx := fun _ h' => P .none h', rt := P } (startD NM ds) h) : t { nx := fun _ H' => Q .non H', rt := Q } (L2.start NM vs) H := by
  obtain ⟨N, h, ds, P, X, S, r, d, k⟩ := hs
  exact (R _).run S (En.start r) (hw ds h P X d) ⟨fun σ ρ H' h' t S' E p => k _ _ _ _ t S' .non p, k, fun σ ρ H' h' t S' E p => p.elim, fun σ ρ H' h' t S' E p => p.elim⟩
theorem SpW.enter {D : List PyData → Lh → Wv → Prop} {t : TS} {w : WS} {E : XK} [R : RS K ⟨fun _ => E, fun _ _ _ _ => False⟩ t w] {vs : List V} {H : Hp} {Q : VK} {NM : List Str} (hs : SpW K D vs H Q E) (hw : ∀ ds h P, D ds h P → w { nx := fun _ h' => P .none h', rt := P } (startD NM ds) h) : t { nx := fun _ H' => Q .non H', rt := Q } (L2.start NM vs) H := by
  obtain ⟨N, h, ds, P, X, S, r, d, k⟩ := hs
  have k' : Ko K ⟨fun _ => E, fun _ _ _ _ => False⟩ N H h P Q := fun v d H' h' t S' r p => k v d H' h' t (S.to t S'.toSim) r p
  exact R.run (Sx.noX S.toSim) (En.start r) (hw ds h P d) ⟨fun σ ρ H' h' t S' E p => k' _ _ _ _ t S' .non p, k', fun σ ρ H' h' t S' E p => p.elim, fun σ ρ H' h' t S' E p => p.elim⟩
/-- mutable things that were made meanwhile are forgotten -/
theorem SpW.enterF {D : List PyData → Lh → Wv → Prop} {t : TS} {w : WS} {E : XK} [R : RS K ⟨fun _ => E, fun _ _ _ _ => False⟩ t w] {vs : List V} {H : Hp} {Q : VK} {NM : List Str} (hs : SpW K D vs H Q E)
    (hw : ∀ ds h P, D ds h P → w { nx := fun _ h' => (∀ a o, h a = some o → h' a = some o) ∧ P .none h, rt := fun d h' => (∀ a o, h a = some o → h' a = some o) ∧ P d h } (startD NM ds) h) : t { nx := fun _ H' => Q .non H', rt := Q } (L2.start NM vs) H := by
  obtain ⟨N, h, ds, P, X, S, r, d, k⟩ := hs
  have k' : Ko K ⟨fun _ => E, fun _ _ _ _ => False⟩ N H h (fun d h' => (∀ a o, h a = some o → h' a = some o) ∧ P d h) Q := fun v d H' h' t S' r p => by
    have t2 : Tr H h H' h := t.trans (Tr.drop p.1)
    exact k v d H' h t2 (S.to t2 (S'.toSim.drop p.1)) (r.tr (Tr.drop p.1)) p.2
  exact R.run (Sx.noX S.toSim) (En.start r) (hw ds h P d) ⟨fun σ ρ H' h' t S' E p => k' _ _ _ _ t S' .non p, k', fun σ ρ H' h' t S' E p => p.elim, fun σ ρ H' h' t S' E p => p.elim⟩
theorem k_psfld {X : Cx} {K : PySem.W.Frag} (hK : X.K = K) {o value : Expr} {f : Str} {pos pos' : Pos} {ta tv : TE} (ha : PE X o ta) (hv : PE X value tv) (hs : swapsWith value (some (.Attribute o f pos')) pos.line X.env = pure false) : PS X (.Assign [.Attribute o f pos'] value pos) (sFld K ta tv f) := by subst hK; exact ps_fld ha hv hs
theorem ps_asgRef {X : Cx} {st : Stmt} {te : TE} {g : TG} (h : PS X st (tAsg te g)) : PS X st (tAsg (tRef te) g) := h
/-- + and * of lists -/
@[simp] def fRepN (d e : PyData) (h : Lh) (P : List PyData → Lh → Prop) : Prop := ∃ ds n, isSc d = false ∧ lv h d = some ds ∧ e = .int n ∧ n ≤ 1000000 ∧ -1000000 ≤ n ∧ ds.length * n.toNat ≤ 100000 ∧ P (List.replicate n.toNat ds).flatten h
theorem Rls.rep {N : Addr → Prop} {H : Hp} {h : Lh} {xs : List V} {ds : List PyData} (r : Rls K N H h xs ds) : ∀ n : Nat, Rls K N H h (List.replicate n xs).flatten (List.replicate n ds).flatten
  | 0 => .nil
  | n + 1 => by
    rw [List.replicate_succ, List.flatten_cons, List.replicate_succ, List.flatten_cons]
    exact r.append (Rls.rep r n)
instance : R2N K rRep fRepN := ⟨fun S a c ⟨ds, n, c1, e1, e2, l1, l2, z, p⟩ k => by
  subst e2
  obtain ⟨q, xs, rfl, t1, r1⟩ := a.lvo S e1 c1
  exact ⟨q, n, xs, rfl, c.i, t1, by omega, by omega, sz_of (by rw [r1.length]; exact z), fun r hr => k.new S hr (r1.rep _) p⟩⟩
@[simp] def fRepT (d e : PyData) (h : Lh) (P : Wv) : Prop := ∃ ds n, tv d = some ds ∧ ds ≠ [] ∧ e = .int n ∧ 0 ≤ n ∧ n ≤ 1000 ∧ ds.length ≤ 1000 ∧ P (.tuple (List.replicate n.toNat ds).flatten) h
instance : R2W K (rRepA K) fRepT := ⟨fun S a c ⟨ds, n, e1, ne, e2, l1, l2, l3, p⟩ k => by
  subst e2
  obtain ⟨q, xs, rfl, t, rs⟩ := a.tup' e1
  refine ⟨q, n, xs, rfl, c.i, t.sq, fun z => ?_, l1, l2, by rw [rs.length]; exact l3, fun z => ?_, fun r hr => k.tup S hr (rs.rep _) p⟩
  · subst z; cases rs; exact ne rfl
  · subst z
    have e3 : (List.replicate (1 : Int).toNat ds).flatten = ds := by simp
    rw [e3] at p
    exact k.at S (.tup t rs) p⟩
end
section
variable {P : Program} {w : World} {K : PySem.W.Frag} {mg : Str → Option Value} {base : Heap}
theorem Cal.weak {CX : CXT} {k : Nat} {x : Str} {ps : List Str} {sp sp' : Sp} (C : Cal P w K mg base CX k x ps sp) (f : ∀ vs H Q E, sp' vs H Q E → sp vs H Q E) : Cal P w K mg base CX k x ps sp' := by
  obtain ⟨g, fd, h1, h2, h3, h4⟩ := C.ex
  exact ⟨g, fd, h1, h2, h3, ⟨fun vs H Q E z => h4.len vs H Q E (f _ _ _ _ z), fun A outer s H c us vs Q E a b d e z => h4.run A outer s H c us vs Q E a b d e (f _ _ _ _ z)⟩⟩
end
/-! ### tables of the text -/
class KTab (K : PySem.W.Frag) (w : World) (p : Addr) (look : outParam (Str → Option Str)) : Prop where
  at_ : ∀ z, ∃ r : Option Value, PySem.W.nsIn K p z = some r ∧ r.isSome = (look z).isSome ∧ ∀ f, look z = some f → KDct K w p z (.str f)
@[simp] def wTabNot (look : Str → Option Str) (a : WE) : WE := fun ρ h P => a ρ h fun d h1 => ∃ z, d = .str z ∧ P (.bool (!(look z).isSome)) h1
@[simp] def wTabIx (look : Str → Option Str) (a : WE) : WE := fun ρ h P => a ρ h fun d h1 => ∃ z v, d = .str z ∧ look z = some v ∧ P (.str v) h1
section
variable {K : PySem.W.Frag} {XX : XP} {w : World}
theorem tab_not (w : World) {p : Addr} {look : Str → Option Str} [B : KTab K w p look] {ta : TE} {a : WE} [A : RE K XX ta a] : RE K XX (tOp (rNotInKd K p) ta (tC (.ref p))) (wTabNot look a) := ⟨fun S E q k => A.run S E q fun v d H1 h1 t1 S1 r1 ⟨z, e, q1⟩ => by
  subst e
  obtain ⟨r, e1, e2, _⟩ := B.at_ z
  exact ⟨z, r, r1.s, rfl, e1, by rw [e2]; exact (k.tr t1).at S1 (.bl _) q1⟩⟩
instance (priority := high) {p : Addr} {look : Str → Option Str} [B : KTab K w p look] {ta : TE} {a : WE} [A : RE K XX ta a] : RE K XX (tOp (rIxD K w) (tC (.ref p)) ta) (wTabIx look a) := ⟨fun S E q k => A.run S E q fun v d H1 h1 t1 S1 r1 ⟨z, f, e, e2, q1⟩ => by
  subst e
  obtain ⟨r, _, _, e4⟩ := B.at_ z
  exact ⟨p, z, .str f, rfl, r1.s, e4 f e2, (k.tr t1).at S1 (.str f) q1⟩⟩
end
@[simp] theorem andA {a b c : Prop} : ((a ∧ b) ∧ c) = (a ∧ b ∧ c) := propext and_assoc
@[simp] theorem ln_1_0 {n : Nat} : ((n : Int) + 1 = 0) = False := by
  apply propext
  exact ⟨fun h => by omega, fun h => h.elim⟩
@[simp] theorem ln_2_0 {n : Nat} : ((n : Int) + 1 + 1 = 0) = False := by
  apply propext
  exact ⟨fun h => by omega, fun h => h.elim⟩
@[simp] theorem ln_2_1 {n : Nat} : ((n : Int) + 1 + 1 = 1) = False := by
  apply propext
  exact ⟨fun h => by omega, fun h => h.elim⟩
@[simp] theorem ln_3_0 {n : Nat} : ((n : Int) + 1 + 1 + 1 = 0) = False := by
  apply propext
  exact ⟨fun h => by omega, fun h => h.elim⟩
@[simp] theorem ln_3_1 {n : Nat} : ((n : Int) + 1 + 1 + 1 = 1) = False := by
  apply propext
  exact ⟨fun h => by omega, fun h => h.elim⟩
@[simp] theorem ln_3_2 {n : Nat} : ((n : Int) + 1 + 1 + 1 = 2) = False := by
  apply propext
  exact ⟨fun h => by omega, fun h => h.elim⟩
@[simp] theorem ln_4_0 {n : Nat} : ((n : Int) + 1 + 1 + 1 + 1 = 0) = False := by
  apply propext
  exact ⟨fun h => by omega, fun h => h.elim⟩
@[simp] theorem ln_4_1 {n : Nat} : ((n : Int) + 1 + 1 + 1 + 1 = 1) = False := by
  apply propext
  exact ⟨fun h => by omega, fun h => h.elim⟩
@[simp] theorem ln_4_2 {n : Nat} : ((n : Int) + 1 + 1 + 1 + 1 = 2) = False := by
  apply propext
  exact ⟨fun h => by omega, fun h => h.elim⟩
@[simp] theorem ln_4_3 {n : Nat} : ((n : Int) + 1 + 1 + 1 + 1 = 3) = False := by
  apply propext
  exact ⟨fun h => by omega, fun h => h.elim⟩
@[simp] theorem ln_5_0 {n : Nat} : ((n : Int) + 1 + 1 + 1 + 1 + 1 = 0) = False := by
  apply propext
  exact ⟨fun h => by omega, fun h => h.elim⟩
@[simp] theorem ln_5_1 {n : Nat} : ((n : Int) + 1 + 1 + 1 + 1 + 1 = 1) = False := by
  apply propext
  exact ⟨fun h => by omega, fun h => h.elim⟩
@[simp] theorem ln_5_2 {n : Nat} : ((n : Int) + 1 + 1 + 1 + 1 + 1 = 2) = False := by
  apply propext
  exact ⟨fun h => by omega, fun h => h.elim⟩
@[simp] theorem ln_5_3 {n : Nat} : ((n : Int) + 1 + 1 + 1 + 1 + 1 = 3) = False := by
  apply propext
  exact ⟨fun h => by omega, fun h => h.elim⟩
@[simp] theorem ln_5_4 {n : Nat} : ((n : Int) + 1 + 1 + 1 + 1 + 1 = 4) = False := by
  apply propext
  exact ⟨fun h => by omega, fun h => h.elim⟩
@[simp] theorem ln_6_0 {n : Nat} : ((n : Int) + 1 + 1 + 1 + 1 + 1 + 1 = 0) = False := by
  apply propext
  exact ⟨fun h => by omega, fun h => h.elim⟩
@[simp] theorem ln_6_1 {n : Nat} : ((n : Int) + 1 + 1 + 1 + 1 + 1 + 1 = 1) = False := by
  apply propext
  exact ⟨fun h => by omega, fun h => h.elim⟩
@[simp] theorem ln_6_2 {n : Nat} : ((n : Int) + 1 + 1 + 1 + 1 + 1 + 1 = 2) = False := by
  apply propext
  exact ⟨fun h => by omega, fun h => h.elim⟩
@[simp] theorem ln_6_3 {n : Nat} : ((n : Int) + 1 + 1 + 1 + 1 + 1 + 1 = 3) = False := by
  apply propext
  exact ⟨fun h => by omega, fun h => h.elim⟩
@[simp] theorem ln_6_4 {n : Nat} : ((n : Int) + 1 + 1 + 1 + 1 + 1 + 1 = 4) = False := by
  apply propext
  exact ⟨fun h => by omega, fun h => h.elim⟩
@[simp] theorem ln_6_5 {n : Nat} : ((n : Int) + 1 + 1 + 1 + 1 + 1 + 1 = 5) = False := by
  apply propext
  exact ⟨fun h => by omega, fun h => h.elim⟩
@[simp] theorem cpow_18 : CPow 10 18 = True := eq_true ⟨by decide, by decide, by decide⟩
@[simp] theorem cpow_9 : CPow 10 9 = True := eq_true ⟨by decide, by decide, by decide⟩
/-! ### places -/
@[simp] theorem atI_0 {α : Type} {a : α} {l : List α} : atI (a :: l) 0 = some a := atI_nat (j := 0) rfl
@[simp] theorem atI_1 {α : Type} {a b : α} {l : List α} : atI (a :: b :: l) 1 = some b := atI_nat (j := 1) rfl
@[simp] theorem atI_2 {α : Type} {a b c : α} {l : List α} : atI (a :: b :: c :: l) 2 = some c := atI_nat (j := 2) rfl
@[simp] theorem atI_3 {α : Type} {a b c d : α} {l : List α} : atI (a :: b :: c :: d :: l) 3 = some d := atI_nat (j := 3) rfl
@[simp] theorem atI_4 {α : Type} {a b c d e : α} {l : List α} : atI (a :: b :: c :: d :: e :: l) 4 = some e := atI_nat (j := 4) rfl
@[simp] theorem ixN_z {n : Nat} : ixN (n + 1) 0 = some 0 := ixN_nat (j := 0) (by omega)
@[simp] theorem ixN_o {n : Nat} : ixN (n + 2) 1 = some 1 := ixN_nat (j := 1) (by omega)
@[simp] theorem seqIndex_z {n : Nat} : seqIndex? 0 (n + 1) = some 0 := by
  simp [seqIndex?]
@[simp] theorem cutD_1 {l : List PyData} : Pd.cutD l (some 1) none = l.drop 1 := Pd.cutD_from 1 l
@[simp] theorem cutD_2 {l : List PyData} : Pd.cutD l (some 2) none = l.drop 2 := Pd.cutD_from 2 l
@[simp] theorem cutD_t1 {l : List PyData} : Pd.cutD l none (some 1) = l.take 1 := Pd.cutD_to 1 l
@[simp] theorem cutD_t2 {l : List PyData} : Pd.cutD l none (some 2) = l.take 2 := Pd.cutD_to 2 l
@[simp] theorem cutD_t3 {l : List PyData} : Pd.cutD l none (some 3) = l.take 3 := Pd.cutD_to 3 l
@[simp] theorem cutD_n {l : List PyData} {n : Nat} : Pd.cutD l (some (n : Int)) none = l.drop n := Pd.cutD_from n l
@[simp] theorem cutD_tn {l : List PyData} {n : Nat} : Pd.cutD l none (some (n : Int)) = l.take n := Pd.cutD_to n l
@[simp] theorem cutD_i {l : List PyData} : Pd.cutD l none (some (-1)) = l.dropLast := Pd.cutD_init l
/-! ### loops by what holds of the rest -/
theorem forL_run {keep : Lh → Prop} {g : WG} {b : WS} {E : WEnds} (I : List PyData → Ev' → Lh → Prop)
    (hs : ∀ d ds ρ h, I (d :: ds) ρ h → keep h ∧ ∀ F : Ev' → Lh → Prop, (∀ ρ h, I ds ρ h → F ρ h) → g d ρ h fun ρ1 h1 => b { nx := F, rt := E.rt, bk := E.nx, ct := F } ρ1 h1)
    (hd : ∀ ρ h, I [] ρ h → keep h ∧ E.nx ρ h) : ∀ {ds ρ h}, I ds ρ h → forL keep g b E ds ρ h
  | [], _, _, i => hd _ _ i
  | d :: ds, _, _, i => ⟨(hs _ _ _ _ i).1, (hs _ _ _ _ i).2 _ fun _ _ j => forL_run I hs hd j⟩
theorem whN_run {t : WT} {b : WS} {E : WEnds} (I : Nat → Ev' → Lh → Prop)
    (hs : ∀ n ρ h, I n ρ h → ∀ F : Ev' → Lh → Prop, (∀ m ρ h, m < n → I m ρ h → F ρ h) → t ρ h fun c h1 => wCond c (b { nx := F, rt := E.rt, bk := E.nx, ct := F } ρ h1) (E.nx ρ h1)) :
    ∀ n m ρ h, m ≤ n → I m ρ h → whN t b E (n + 1) ρ h
  | 0, m, ρ, h, l, i => hs _ _ _ i _ fun m' _ _ q _ => absurd q (by omega)
  | n + 1, m, ρ, h, l, i => hs _ _ _ i _ fun m' ρ' h' q j => whN_run I hs n m' ρ' h' (by omega) j
theorem wWhile_run {t : WT} {b : WS} {E : WEnds} {ρ : Ev'} {h : Lh} (I : Nat → Ev' → Lh → Prop) (n : Nat) (i : I n ρ h)
    (hs : ∀ n ρ h, I n ρ h → ∀ F : Ev' → Lh → Prop, (∀ m ρ h, m < n → I m ρ h → F ρ h) → t ρ h fun c h1 => wCond c (b { nx := F, rt := E.rt, bk := E.nx, ct := F } ρ h1) (E.nx ρ h1)) : wWhile t b E ρ h := ⟨n + 1, whN_run I hs n n ρ h (Nat.le_refl _) i⟩
theorem lcL_run {keep : Lh → Prop} {g : WG} {t : WT} {e : WE} {ρ : Ev'} {P : List PyData → Lh → Prop} (I : List PyData → List PyData → Lh → Prop)
    (hs : ∀ d ds acc h, I (d :: ds) acc h → keep h ∧ acc.length < 100000 ∧ ∀ F : List PyData → Lh → Prop, (∀ acc h, I ds acc h → F acc h) → g d ρ h fun ρ1 h1 => t ρ1 h1 fun b h2 => wCond b (e ρ1 h2 fun x h3 => F (acc ++ [x]) h3) (F acc h2))
    (hd : ∀ acc h, I [] acc h → keep h ∧ P acc h) : ∀ {ds acc h}, I ds acc h → lcL keep g t e ρ P ds acc h
  | [], _, _, i => hd _ _ i
  | d :: ds, _, _, i => ⟨(hs _ _ _ _ i).1, (hs _ _ _ _ i).2.1, (hs _ _ _ _ i).2.2 _ fun _ _ j => lcL_run I hs hd j⟩
/-- each thing gives one -/
theorem lcL_map {α : Type} {keep : Lh → Prop} {g : WG} {e : WE} {ρ : Ev'} {P : List PyData → Lh → Prop} {h : Lh} {l : List α} {emb : α → PyData} (f : α → PyData) (hk : keep h) (hz : l.length ≤ 100000)
    (hs : ∀ a ∈ l, ∀ F : PyData → Lh → Prop, F (f a) h → g (emb a) ρ h fun ρ1 h1 => e ρ1 h1 F) (hd : P (l.map f) h) : lcL keep g wYes e ρ P (l.map emb) [] h := by
  have key : ∀ (m k : List α), k ++ m = l → lcL keep g wYes e ρ P (m.map emb) (k.map f) h := by
    intro m
    induction m with
    | nil => intro k q; rw [List.append_nil] at q; subst q; exact ⟨hk, hd⟩
    | cons a m ih =>
      intro k q
      refine ⟨hk, by rw [List.length_map]; have := congrArg List.length q; simp at this; omega, ?_⟩
      have ih' := ih (k ++ [a]) (by rw [List.append_assoc]; exact q)
      rw [List.map_append] at ih'
      have hm : a ∈ l := by rw [← q]; simp
      have := hs a hm (fun x h3 => lcL keep g wYes e ρ P (m.map emb) (k.map f ++ [x]) h3) ih'
      simp only [wYes, wCond_t]
      exact this
  exact key l [] rfl
/-! ### the tape -/
structure TapeOk (t c : Addr) (h : Lh) : Prop where
  ne : c ≠ t
  tp : ∃ s : Int, h t = some (.lst [rf c, .int s]) ∧ 0 ≤ s ∧ s < 2147483647
  ce : ∃ ns : List Int, h c = some (.lst (ns.map .int)) ∧ ns.length ≤ 63 ∧ ∀ n ∈ ns, 0 ≤ n
/-- behind a draw -/
structure TapeGo (t c : Addr) (h h' : Lh) : Prop where
  ok : TapeOk t c h'
  fr : ∀ a o, a ≠ t → a ≠ c → h a = some o → h' a = some o
theorem TapeGo.refl {t c : Addr} {h : Lh} (T : TapeOk t c h) : TapeGo t c h h := ⟨T, fun _ _ _ _ e => e⟩
theorem TapeGo.trans {t c : Addr} {h h1 h2 : Lh} (a : TapeGo t c h h1) (b : TapeGo t c h1 h2) : TapeGo t c h h2 := ⟨b.ok, fun x o n1 n2 e => b.fr x o n1 n2 (a.fr x o n1 n2 e)⟩
theorem TapeOk.ex {t c : Addr} {h h' : Lh} (T : TapeOk t c h) (f : ∀ a o, h a = some o → h' a = some o) : TapeOk t c h' := by
  obtain ⟨ne, ⟨s, e, b⟩, ns, e2, b2⟩ := T
  exact ⟨ne, ⟨s, f _ _ e, b⟩, ns, f _ _ e2, b2⟩
/-- something is made meanwhile -/
theorem TapeGo.ex {t c : Addr} {h h' : Lh} (T : TapeOk t c h) (f : ∀ a o, h a = some o → h' a = some o) : TapeGo t c h h' := ⟨T.ex f, fun a o _ _ e => f a o e⟩
theorem up_ex {h : Lh} {p : Addr} {o : LO} (n : h p = none) : ∀ a u, h a = some u → up h p o a = some u := fun a u z => by rw [up_ne (fun q => by rw [q, n] at z; cases z)]; exact z
theorem TapeOk.has {t c : Addr} {h : Lh} (T : TapeOk t c h) : (∃ o, h t = some o) ∧ ∃ o, h c = some o := by
  obtain ⟨ne, ⟨s, e, b⟩, ns, e2, b2⟩ := T
  exact ⟨⟨_, e⟩, _, e2⟩
/-- another object is written meanwhile -/
theorem TapeOk.put {t c p : Addr} {h : Lh} {o : LO} (T : TapeOk t c h) (n1 : p ≠ t) (n2 : p ≠ c) : TapeOk t c (up h p o) := by
  obtain ⟨ne, ⟨s, e, b⟩, ns, e2, b2⟩ := T
  exact ⟨ne, ⟨s, by rw [up_ne (Ne.symm n1)]; exact e, b⟩, ns, by rw [up_ne (Ne.symm n2)]; exact e2, b2⟩
def D_tape (ds : List PyData) (h : Lh) (P : Wv) : Prop := ∃ ns : List Int, ds = [.dict [(.none, .tuple (ns.map .int))]] ∧ ns.length ≤ 63 ∧ ∀ t c h', h t = none → h c = none → TapeGo t c h h' → P (rf t) h'
def D_draw (ds : List PyData) (h : Lh) (P : Wv) : Prop := ∃ (t c : Addr) (m : Nat), ds = [rf t, .int (m : Nat)] ∧ TapeOk t c h ∧ 1 ≤ m ∧ m ≤ 1000 ∧ ∀ r : Nat, r < m → ∀ h', TapeGo t c h h' → P (.int (r : Nat)) h'
theorem D_draw_run {t c : Addr} {m : Nat} {h : Lh} {P : Wv} (T : TapeOk t c h) (h1 : 1 ≤ m) (h2 : m ≤ 1000) (k : ∀ r : Nat, r < m → ∀ h', TapeGo t c h h' → P (.int (r : Nat)) h') : D_draw [rf t, .int (m : Nat)] h P := ⟨t, c, m, rfl, T, h1, h2, k⟩
def D_pick (ds : List PyData) (h : Lh) (P : Wv) : Prop := ∃ (t c : Addr) (es : List PyData), ds = [rf t, .list es] ∧ TapeOk t c h ∧ es ≠ [] ∧ es.length ≤ 1000 ∧ ∀ x ∈ es, ∀ h', TapeGo t c h h' → P x h'
theorem D_pick_run {t c : Addr} {es : List PyData} {h : Lh} {P : Wv} (T : TapeOk t c h) (h1 : es ≠ []) (h2 : es.length ≤ 1000) (k : ∀ x ∈ es, ∀ h', TapeGo t c h h' → P x h') : D_pick [rf t, .list es] h P := ⟨t, c, es, rfl, T, h1, h2, k⟩
end Wl
set_option Elab.async false
set_option linter.all false
set_option maxRecDepth 100000
set_option maxHeartbeats 2000000
/-! Wg: exceptions over the plain layer. -/
namespace Wl
open PySem PySem.Spec PyProof.Rows L2 Evl Pd
abbrev XB := Addr → List (Str × PyData) → Lh → Prop
abbrev WX' := Ev' → Lh → XB → Prop
class RX (K : PySem.W.Frag) (XX : XP) (t : L2.St → Hp → XK → Prop) (w : outParam WX') : Prop where
  run : ∀ {N : Addr → Prop} {σ : L2.St} {H : Hp} {ρ : Ev'} {h : Lh} {X : XB} {E : XK}, Sx K XX N H h → En K N H h σ ρ → w ρ h X → (∀ C d fs H' h', Tr H h H' h' → Sim K N H' h' → XRel K N H' h' d fs → X C fs h' → E (.ref C) d H') → t σ H E
/-- raise -/
def tRz (t : L2.St → Hp → XK → Prop) (E : L2.St → XK) : TS := fun _ σ H => t σ H (E σ)
@[simp] def wRz (w : WX') (X : Ev' → XB) : WS := fun _ ρ h => w ρ h (X ρ)
theorem k_raise {X : Cx} {E : XK} {e : Expr} {t : L2.St → Hp → XK → Prop} {pos : Pos} (hc : X.calm = true) (tk : Takes X (fun cls d _ H => E cls d H)) (he : PMk X e t) : PS X (.Raise (some e) none pos) (tRz t fun _ => E) := ps_raise hc tk he
theorem k_raiseW {X : Cx} {W : WX} {e : Expr} {t : L2.St → Hp → XK → Prop} {pos : Pos} (hc : X.calm = true) (tk : Takes X W) (he : PMk X e t) : PS X (.Raise (some e) none pos) (tRz t (L2.WE W)) := ps_raise hc tk he
def tMkX (C : Addr) : L2.St → Hp → XK → Prop := fun _ H Q => Q (.ref C) none H
theorem k_mkx {X : Cx} {x : Str} {C : Addr} {p pos : Pos} (T : XCls X.K X.mg x C) (hg : Gl X x) (hdb : (x == ("__debug__" : Str)) = false := by decide) : PMk X (.Call (.Name x p) [] [] pos) (tMkX C) := pmk_x T hg hdb
@[simp] def wMkX (C : Addr) : WX' := fun _ h X => X C [] h
@[simp] def wMkF (C : Addr) (f : Str) (a : WA) : WX' := fun ρ h X => a ρ h fun ds h1 => ∃ d, ds = [d] ∧ X C [(f, d)] h1
section
variable {K : PySem.W.Frag} {XX : XP}
instance {t : L2.St → Hp → XK → Prop} {w : WX'} {E : L2.St → XK} {X : Ev' → XB} [R : RX K ⟨E, X⟩ t w] : RS K ⟨E, X⟩ (tRz t E) (wRz w X) := ⟨fun S e p k => R.run S e p fun C d fs H' h' t S' xr q => S.x _ _ C d fs H' h' t S' (e.tr t) xr q⟩
instance (C : Addr) : RX K XX (tMkX C) (wMkX C) := ⟨fun S e p k => k C none [] _ _ (Tr.refl _ _) S.toSim rfl p⟩
instance {C : Addr} {f : Str} {ta : TA} {a : WA} [A : RA K XX ta a] : RX K XX (tMkO C (sp_fld C f) [] ta) (wMkF C f a) := ⟨fun {N σ H ρ h X E} S e p k =>
  A.run S e p fun vs ds H1 h1 t1 S1 r1 ⟨d0, ed, q⟩ => by
    subst ed
    obtain ⟨v, rfl, rv⟩ := r1.one
    refine ⟨by show 1 ≤ 1000; omega, fun a ha => ⟨a, v, rfl, upd_same, fun dx hdx hne => ⟨rfl, dx, [(f, v)], upd_same, by rw [upd_ne hne, upd_same], ?_, ?_⟩⟩⟩
    · rw [upd_ne hne] at hdx; exact hdx
    · have hd1 : H1 dx = none := by rw [upd_ne hne] at hdx; exact hdx
      have e2 : Ex H1 (L2.upd (L2.del (L2.upd (L2.upd (L2.upd H1 a (exo a C none)) dx (exd dx [(f, v)])) a (exo a C (some dx))) a) dx (.xd [(f, v)])) := fun b o hb => by
        have h1 : b ≠ a := fun z => by rw [z, ha] at hb; cases hb
        have h2 : b ≠ dx := fun z => by rw [z, hd1] at hb; cases hb
        rw [upd_ne h2, del_ne h1, upd_ne h1, upd_ne h2, upd_ne h1]
        exact hb
      exact k C (some dx) [(f, d0)] _ h1 (t1.trans (Tr.ex e2)) (S1.toSim.ex e2) ⟨_, upd_same, .cons ⟨rfl, rv.tr (Tr.ex e2)⟩ .nil⟩ q⟩
end
/-- try .. except C -/
def tTryO (K : PySem.W.Frag) (c : Value) (tb : WX → TS) (ts : Addr → Value → Option Addr → TS) (Wout : WX) : TS := fun D σ H => tb (wOnly K c ts Wout D) D σ H
theorem k_tryO {X : Cx} {K : PySem.W.Frag} (hK : X.K = K) {x : Str} {c : Value} {body suite : List Stmt} {b₀ : Stmt} {np pos pos' : Pos} {tb : WX → TS} {ts : Addr → Value → Option Addr → TS} {Wout : WX} (hs : X.stack = X.env :: X.outer) (hf : X.env.frame = some X.env.locals) (hc : Names X x c) (tk : Takes X Wout)
    (hb : ∀ (W : WX) (pn : List (Addr × Obj)) (xe : Value → Shared → Prop), Takes (X.tr pn xe) W → PassesOwn (model X.prog X.w) X.A X.env xe → PSs (X.tr pn xe) body (tb W))
    (hsu : ∀ (a : Addr) (oe : Obj) (cls : Value) (d : Option Addr) (pn : List (Addr × Obj)), Zc cls d oe → (∃ vs, oe.data = .fields vs) → PSs (X.suite a ((a, oe) :: pn)) (b₀ :: suite) (ts a cls d)) :
    PS X (.Try body [.ExceptHandler (some (.Name x np)) none (b₀ :: suite) pos'] [] [] pos) (tTryO K c tb ts Wout) := by subst hK; exact ps_try_only hs hf hc tk hb hsu
def xTry (K : PySem.W.Frag) (c : Value) (ws : WS) (E : WEnds) (Xo : Ev' → XB) : Ev' → XB := fun ρ C fs h => ∃ b, PySem.W.exmOne K (.ref C) c = some b ∧ wCond b (ws E ρ h) (Xo ρ C fs h)
@[simp] def wTryO (K : PySem.W.Frag) (c : Value) (wb : (Ev' → XB) → WS) (ws : WS) (Xo : Ev' → XB) : WS := fun E ρ h => wb (xTry K c ws E Xo) E ρ h
instance {K : PySem.W.Frag} {XX : XP} {c : Value} {tb : WX → TS} {ts : Addr → Value → Option Addr → TS} {wb : (Ev' → XB) → WS} {ws : WS} [B : ∀ (W : WX) (X : Ev' → XB), RS K ⟨L2.WE W, X⟩ (tb W) (wb X)] [U : ∀ a cls d, RS K XX (ts a cls d) ws] :
    RS K XX (tTryO K c tb ts (fun _ _ _ _ => False)) (wTryO K c wb ws fun _ _ _ _ => False) := ⟨fun {N σ H ρ h E D} S e p k =>
  (B (wOnly K c ts (fun _ _ _ _ => False) D) (xTry K c ws E fun _ _ _ _ => False)).run ⟨S.toSim, fun σ' ρ' C d fs H' h' t S' e' xr ⟨b, eb, cond⟩ => ⟨b, eb, fun hb a ha => (U a (.ref C) d).run (S.to t S') e' (cond.1 hb) (k.tr t), fun hb => (cond.2 hb).elim⟩⟩ e p
    ⟨fun σ' ρ' H' h' t S' => k.nx σ' ρ' H' h' t (S.to t S'.toSim), fun v d H' h' t S' => k.rt v d H' h' t (S.to t S'.toSim), fun σ' ρ' H' h' t S' => k.bk σ' ρ' H' h' t (S.to t S'.toSim), fun σ' ρ' H' h' t S' => k.ct σ' ρ' H' h' t (S.to t S'.toSim)⟩⟩
instance {K : PySem.W.Frag} {E0 : XK} {Xo : Ev' → XB} {c : Value} {tb : WX → TS} {ts : Addr → Value → Option Addr → TS} {wb : (Ev' → XB) → WS} {ws : WS} [B : ∀ (W : WX) (X : Ev' → XB), RS K ⟨L2.WE W, X⟩ (tb W) (wb X)] [U : ∀ a cls d, RS K ⟨fun _ => E0, Xo⟩ (ts a cls d) ws] :
    RS K ⟨fun _ => E0, Xo⟩ (tTryO K c tb ts (fun cls d _ H => E0 cls d H)) (wTryO K c wb ws Xo) := ⟨fun {N σ H ρ h E D} S e p k =>
  (B (wOnly K c ts (fun cls d _ H => E0 cls d H) D) (xTry K c ws E Xo)).run ⟨S.toSim, fun σ' ρ' C d fs H' h' t S' e' xr ⟨b, eb, cond⟩ => ⟨b, eb, fun hb a ha => (U a (.ref C) d).run (S.to t S') e' (cond.1 hb) (k.tr t), fun hb => S.x σ' ρ' C d fs H' h' t S' e' xr (cond.2 hb)⟩⟩ e p
    ⟨fun σ' ρ' H' h' t S' => k.nx σ' ρ' H' h' t (S.to t S'.toSim), fun v d H' h' t S' => k.rt v d H' h' t (S.to t S'.toSim), fun σ' ρ' H' h' t S' => k.bk σ' ρ' H' h' t (S.to t S'.toSim), fun σ' ρ' H' h' t S' => k.ct σ' ρ' H' h' t (S.to t S'.toSim)⟩⟩
/-- for defs with a try: the body's instance is to be given under its binders -/
theorem rs_try {K : PySem.W.Frag} {XX : XP} {c : Value} {tb : WX → TS} {ts : Addr → Value → Option Addr → TS} {wb : (Ev' → XB) → WS} {ws : WS} (B : ∀ (W : WX) (X : Ev' → XB), RS K ⟨L2.WE W, X⟩ (tb W) (wb X)) [U : ∀ a cls d, RS K XX (ts a cls d) ws] :
    RS K XX (tTryO K c tb ts (fun _ _ _ _ => False)) (wTryO K c wb ws fun _ _ _ _ => False) := inferInstance
theorem rs_seq {K : PySem.W.Frag} {XX : XP} {ta tb : TS} {a b : WS} (A : RS K XX ta a) [B : RS K XX tb b] : RS K XX (tSeq ta tb) (wSeq a b) := inferInstance
end Wl
set_option Elab.async false
set_option linter.all false
set_option maxRecDepth 100000
set_option maxHeartbeats 2000000
/-! Wh: dicts over the plain layer (keys: ints and texts). -/
namespace Wl
open PySem PySem.Spec PyProof.Rows L2 Evl Pd
section
variable {κ : Type} [DecidableEq κ]
def valD (kvs : List (κ × PyData)) (k : κ) : Option PyData := (kvs.find? fun kv => decide (kv.1 = k)).map (·.2)
@[simp] theorem valD_nil {k : κ} : valD ([] : List (κ × PyData)) k = none := rfl
@[simp] theorem valD_cons {p : κ × PyData} {r : List (κ × PyData)} {k : κ} : valD (p :: r) k = if p.1 = k then some p.2 else valD r k := by
  unfold valD
  rw [List.find?_cons]
  by_cases h : p.1 = k
  · rw [decide_eq_true h, if_pos h]; rfl
  · rw [decide_eq_false h, if_neg h]
def putD : List (κ × PyData) → κ → PyData → List (κ × PyData)
  | [], k, v => [(k, v)]
  | p :: r, k, v => if p.1 = k then (p.1, v) :: r.map (fun kv => if kv.1 = k then (kv.1, v) else kv) else p :: putD r k v
@[simp] theorem putD_nil {k : κ} {v : PyData} : putD ([] : List (κ × PyData)) k v = [(k, v)] := rfl
theorem putV_nil {k : κ} {v : V} : L2.putK ([] : List (κ × V)) k v = [(k, v)] := rfl
theorem putV_cons {p : κ × V} {r : List (κ × V)} {k : κ} {v : V} : L2.putK (p :: r) k v = if p.1 = k then (p.1, v) :: r.map (fun kv => if kv.1 = k then (kv.1, v) else kv) else p :: L2.putK r k v := by
  unfold L2.putK
  rw [List.any_cons]
  by_cases h : p.1 = k
  · rw [decide_eq_true h, Bool.true_or, if_pos rfl, if_pos h, List.map_cons, if_pos h]
  · rw [decide_eq_false h, Bool.false_or, if_neg h]
    by_cases g : (r.any fun kv => decide (kv.1 = k)) = true
    · rw [if_pos g, if_pos g, List.map_cons, if_neg h]
    · rw [if_neg g, if_neg g]; rfl
variable {K : PySem.W.Frag} {N : Addr → Prop} {H : Hp} {h : Lh}
abbrev KP (κ : Type) (K : PySem.W.Frag) (N : Addr → Prop) (H : Hp) (h : Lh) : List (κ × V) → List (κ × PyData) → Prop := Paired fun (p : κ × V) (q : κ × PyData) => p.1 = q.1 ∧ Rl K N H h p.2 q.2
theorem KP.val {k : κ} : ∀ {xs : List (κ × V)} {ds : List (κ × PyData)}, KP κ K N H h xs ds → (valD ds k = none → valV xs k = none) ∧ ∀ d, valD ds k = some d → ∃ v, valV xs k = some v ∧ Rl K N H h v d
  | _, _, .nil => ⟨fun _ => rfl, fun d e => by cases e⟩
  | (a, x) :: xs, (b, y) :: ds, .cons e r => by
    obtain ⟨e1, e2⟩ := e
    cases e1
    have ih := KP.val (k := k) r
    rw [valD_cons]
    by_cases c : a = k
    · rw [if_pos c, valV_pos c]
      exact ⟨fun z => by (cases z), fun d z => by cases z; exact ⟨_, rfl, e2⟩⟩
    · rw [if_neg c, valV_neg c]; exact ih
theorem KP.map {k : κ} {v : V} {d : PyData} (rv : Rl K N H h v d) : ∀ {xs : List (κ × V)} {ds : List (κ × PyData)}, KP κ K N H h xs ds → KP κ K N H h (xs.map fun kv => if kv.1 = k then (kv.1, v) else kv) (ds.map fun kv => if kv.1 = k then (kv.1, d) else kv)
  | _, _, .nil => .nil
  | (a, x) :: xs, (b, y) :: ds, .cons e r => by
    obtain ⟨e1, e2⟩ := e
    cases e1
    rw [List.map_cons, List.map_cons]
    by_cases c : a = k
    · rw [if_pos c, if_pos c]; exact .cons ⟨rfl, rv⟩ (KP.map rv r)
    · rw [if_neg c, if_neg c]; exact .cons ⟨rfl, e2⟩ (KP.map rv r)
theorem KP.put {k : κ} {v : V} {d : PyData} (rv : Rl K N H h v d) : ∀ {xs : List (κ × V)} {ds : List (κ × PyData)}, KP κ K N H h xs ds → KP κ K N H h (L2.putK xs k v) (putD ds k d)
  | _, _, .nil => .cons ⟨rfl, rv⟩ .nil
  | (a, x) :: xs, (b, y) :: ds, .cons e r => by
    obtain ⟨e1, e2⟩ := e
    cases e1
    rw [putV_cons, putD]
    by_cases c : a = k
    · rw [if_pos c, if_pos c]; exact .cons ⟨rfl, rv⟩ (KP.map rv r)
    · rw [if_neg c, if_neg c]; exact .cons ⟨rfl, e2⟩ (KP.put rv r)
theorem KP.len : ∀ {xs : List (κ × V)} {ds : List (κ × PyData)}, KP κ K N H h xs ds → xs.length = ds.length := Paired.len
theorem KP.tr {H' : Hp} {h' : Lh} (t : Tr H h H' h') {xs : List (κ × V)} {ds : List (κ × PyData)} (r : KP κ K N H h xs ds) : KP κ K N H' h' xs ds := Paired.mono2 (fun a b z => ⟨z.1, z.2.tr t⟩) r
end
def keyD : PyData → Option Key
  | .int i => some (.inl i)
  | .str s => some (.inr s)
  | _ => none
@[simp] theorem keyD_int {i : Int} : keyD (.int i) = some (.inl i) := rfl
@[simp] theorem keyD_str {i : Str} : keyD (.str i) = some (.inr i) := rfl
section
variable {K : PySem.W.Frag} {XX : XP} {N : Addr → Prop} {H : Hp} {h : Lh}
theorem Rl.key {v : V} {d : PyData} {k : Key} (r : Rl K N H h v d) (e : keyD d = some k) : v = kV k := by
  cases d with
  | int i => cases e; exact r.i
  | str s => cases e; exact r.s
  | _ => cases e
theorem Sim.dK {a : Addr} {kvs : List (Key × PyData)} (S : Sim K N H h) (e : h a = some (.dK kvs)) : ∃ xs, H a = some (.dK xs) ∧ KP Key K N H h xs kvs := by
  obtain ⟨n, u, z, k⟩ := S.at_ a _ e
  cases k with
  | dK k => exact ⟨_, z, k⟩
@[simp] def wDGet (a b : WE) : WE := fun ρ h P => a ρ h fun d h1 => b ρ h1 fun y h2 => ∃ p kvs k v, d = rf p ∧ h2 p = some (.dK kvs) ∧ keyD y = some k ∧ valD kvs k = some v ∧ P v h2
instance {td ty : TE} {a b : WE} [A : RE K XX td a] [B : RE K XX ty b] : RE K XX (tDGet td ty) (wDGet a b) := ⟨fun S E p k =>
  A.run S E p fun v d H1 h1 t1 S1 r1 p1 => B.run S1 (E.tr t1) p1 fun y yd H2 h2 t2 S2 r2 ⟨q, kvs, kk, x, e1, e2, e3, e4, p2⟩ => by
    obtain ⟨xs, z, r⟩ := S2.toSim.dK e2
    obtain ⟨u, hu, ru⟩ := (KP.val r).2 x e4
    refine ⟨q, u, (r1.tr t2).r (a := q) (by rw [e1]; exact asR_rf q), ?_, (k.tr (t1.trans t2)).at S2 ru p2⟩
    rw [r2.key e3, ← hu]
    exact DGet.k z⟩
@[simp] def wDGet2 (a b c : WE) : WE := fun ρ h P => a ρ h fun d h1 => (∃ p kvs, d = rf p ∧ h1 p = some (.dK kvs)) ∧ b ρ h1 fun y h2 => c ρ h2 fun z h3 => ∃ p kvs k, d = rf p ∧ h3 p = some (.dK kvs) ∧ keyD y = some k ∧ P ((valD kvs k).getD z) h3
instance {td ty tx : TE} {a b c : WE} [A : RE K XX td a] [B : RE K XX ty b] [C : RE K XX tx c] : RE K XX (tDGet2 td ty tx) (wDGet2 a b c) := ⟨fun S E p k =>
  A.run S E p fun v d H1 h1 t1 S1 r1 ⟨⟨q0, kvs0, e01, e02⟩, p1⟩ => by
    obtain ⟨xs0, z0, _⟩ := S1.toSim.dK e02
    refine ⟨q0, r1.r (a := q0) (by rw [e01]; exact asR_rf q0), .inl ⟨xs0, .inl z0⟩, B.run S1 (E.tr t1) p1 fun y yd H2 h2 t2 S2 r2 p2 => C.run S2 (E.tr (t1.trans t2)) p2 fun w wd H3 h3 t3 S3 r3 ⟨q, kvs, kk, e1, e2, e3, p3⟩ => ?_⟩
    obtain ⟨xs, z, r⟩ := S3.toSim.dK e2
    have eq : q0 = q := by
      have h1 := r1.r (a := q0) (by rw [e01]; exact asR_rf q0)
      have h2 := r1.r (a := q) (by rw [e1]; exact asR_rf q)
      rw [h1] at h2; cases h2; rfl
    subst eq
    refine ⟨valV xs kk, ?_, ?_⟩
    · rw [(r2.tr t3).key e3]; exact DGet.k z
    · cases hv : valD kvs kk with
      | none =>
        rw [hv] at p3
        rw [(KP.val r).1 hv]
        exact (k.tr ((t1.trans t2).trans t3)).at S3 r3 p3
      | some x =>
        rw [hv] at p3
        obtain ⟨u, hu, ru⟩ := (KP.val r).2 x hv
        rw [hu]
        exact (k.tr ((t1.trans t2).trans t3)).at S3 ru p3⟩
@[simp] def wDIn (neg : Bool) (b a : WE) : WE := fun ρ h P => b ρ h fun y h1 => a ρ h1 fun d h2 => ∃ p kvs k, d = rf p ∧ h2 p = some (.dK kvs) ∧ keyD y = some k ∧ P (.bool (if neg then !(valD kvs k).isSome else (valD kvs k).isSome)) h2
theorem KP.some {kvs : List (Key × PyData)} {xs : List (Key × V)} {k : Key} (r : KP Key K N H h xs kvs) : (valV xs k).isSome = (valD kvs k).isSome := by
  cases hv : valD kvs k with
  | none => rw [(KP.val r).1 hv]; rfl
  | some x => obtain ⟨u, hu, _⟩ := (KP.val r).2 x hv; rw [hu]; rfl
instance {td ty : TE} {a b : WE} [A : RE K XX td a] [B : RE K XX ty b] : RE K XX (tDIn ty td) (wDIn false b a) := ⟨fun S E p k =>
  B.run S E p fun y yd H1 h1 t1 S1 r1 p1 => A.run S1 (E.tr t1) p1 fun v d H2 h2 t2 S2 r2 ⟨q, kvs, kk, e1, e2, e3, p2⟩ => by
    obtain ⟨xs, z, r⟩ := S2.toSim.dK e2
    refine ⟨q, valV xs kk, r2.r (a := q) (by rw [e1]; exact asR_rf q), ?_, ?_⟩
    · rw [(r1.tr t2).key e3]; exact DGet.k z
    · rw [KP.some r]; exact (k.tr (t1.trans t2)).at S2 (.bl _) p2⟩
instance {td ty : TE} {a b : WE} [A : RE K XX td a] [B : RE K XX ty b] : RE K XX (tDNotIn ty td) (wDIn true b a) := ⟨fun S E p k =>
  B.run S E p fun y yd H1 h1 t1 S1 r1 p1 => A.run S1 (E.tr t1) p1 fun v d H2 h2 t2 S2 r2 ⟨q, kvs, kk, e1, e2, e3, p2⟩ => by
    obtain ⟨xs, z, r⟩ := S2.toSim.dK e2
    refine ⟨q, valV xs kk, r2.r (a := q) (by rw [e1]; exact asR_rf q), ?_, ?_⟩
    · rw [(r1.tr t2).key e3]; exact DGet.k z
    · rw [KP.some r]; exact (k.tr (t1.trans t2)).at S2 (.bl _) p2⟩
/-- d[k] = v -/
@[simp] def wDPut (a b c : WE) : WS := fun E ρ h => c ρ h fun v h1 => a ρ h1 fun d h2 => b ρ h2 fun y h3 => ∃ p kvs k, d = rf p ∧ h3 p = some (.dK kvs) ∧ keyD y = some k ∧ kvs.length < 100000 ∧ E.nx ρ (up h3 p (.dK (putD kvs k v)))
instance {td ty tv : TE} {a b c : WE} [A : RE K XX td a] [B : RE K XX ty b] [C : RE K XX tv c] : RS K XX (sDPut td ty tv) (wDPut a b c) := ⟨fun {N σ H ρ h E D} S e p k =>
  C.run S e p fun v vd H1 h1 t1 S1 r1 p1 => A.run S1 (e.tr t1) p1 fun x d H2 h2 t2 S2 r2 p2 => B.run S2 (e.tr (t1.trans t2)) p2 fun y yd H3 h3 t3 S3 r3 ⟨q, kvs, kk, e1, e2, e3, l, p3⟩ => by
    obtain ⟨xs, z, r⟩ := S3.toSim.dK e2
    have hp : H3 q = none ∨ h3 q ≠ none := .inr (by rw [e2]; intro z; cases z)
    have t := (t1.trans t2).trans t3
    have t4 : Tr H3 h3 (L2.upd H3 q (.dK (L2.putK xs kk v))) (up h3 q (.dK (putD kvs kk vd))) := Tr.put hp
    refine ⟨q, _, (r2.tr t3).r (a := q) (by rw [e1]; exact asR_rf q), ?_, k.nx _ _ _ _ (t.trans t4) (S3.put hp (.dK (KP.put (r1.tr (t2.trans t3)) r))) (e.tr (t.trans t4)) p3⟩
    rw [r3.key e3]
    exact DPut.k z (sz_lt (by rw [KP.len r]; exact l))⟩
/-! displays -/
abbrev WP := Ev' → Lh → (List (PyData × PyData) → Lh → Prop) → Prop
class RP (K : PySem.W.Frag) (XX : XP) (trs : List (TE × TE)) (w : outParam WP) : Prop where
  run : ∀ {N : Addr → Prop} {σ : L2.St} {H : Hp} {ρ : Ev'} {h : Lh} {P : List (PyData × PyData) → Lh → Prop} {Q : List (V × V) → Hp → Prop}, Sx K XX N H h → En K N H h σ ρ → w ρ h P →
    (∀ vs ds H' h', Tr H h H' h' → Sx K XX N H' h' → Paired (fun (p : V × V) (q : PyData × PyData) => Rl K N H' h' p.1 q.1 ∧ Rl K N H' h' p.2 q.2) vs ds → P ds h' → Q vs H') → tPairs trs σ H Q
@[simp] def wP0 : WP := fun _ h P => P [] h
@[simp] def wP1 (a b : WE) (r : WP) : WP := fun ρ h P => a ρ h fun d h1 => b ρ h1 fun e h2 => r ρ h2 fun ps h3 => P ((d, e) :: ps) h3
instance : RP K XX [] wP0 := ⟨fun S e p k => k _ _ _ _ (Tr.refl _ _) S .nil p⟩
instance {ta tb : TE} {trs : List (TE × TE)} {a b : WE} {r : WP} [A : RE K XX ta a] [B : RE K XX tb b] [R : RP K XX trs r] : RP K XX ((ta, tb) :: trs) (wP1 a b r) := ⟨fun S e p k =>
  A.run S e p fun v d H1 h1 t1 S1 r1 p1 => B.run S1 (e.tr t1) p1 fun y yd H2 h2 t2 S2 r2 p2 => R.run S2 (e.tr (t1.trans t2)) p2 fun vs ds H3 h3 t3 S3 r3 p3 => k _ _ _ _ ((t1.trans t2).trans t3) S3 (.cons ⟨r1.tr (t2.trans t3), r2.tr t3⟩ r3) p3⟩
def kvsD : List (PyData × PyData) → Option (List (Key × PyData))
  | [] => some []
  | (k, v) :: r => match keyD k, kvsD r with
    | some k, some r => some ((k, v) :: r)
    | _, _ => none
@[simp] theorem kvsD_nil : kvsD [] = some [] := rfl
@[simp] theorem kvsD_str {s : Str} {v : PyData} {r : List (PyData × PyData)} : kvsD ((.str s, v) :: r) = (kvsD r).map ((.inr s, v) :: ·) := by
  rw [kvsD]
  cases kvsD r <;> rfl
@[simp] theorem kvsD_int {s : Int} {v : PyData} {r : List (PyData × PyData)} : kvsD ((.int s, v) :: r) = (kvsD r).map ((.inl s, v) :: ·) := by
  rw [kvsD]
  cases kvsD r <;> rfl
theorem kvsD_ok {N : Addr → Prop} {H : Hp} {h : Lh} : ∀ {vs : List (V × V)} {ds : List (PyData × PyData)} {kvs : List (Key × PyData)}, Paired (fun (p : V × V) (q : PyData × PyData) => Rl K N H h p.1 q.1 ∧ Rl K N H h p.2 q.2) vs ds → kvsD ds = some kvs → ∃ xs : List (Key × V), vs = xs.map (fun kv => (kV kv.1, kv.2)) ∧ KP Key K N H h xs kvs
  | _, _, _, .nil, e => by cases e; exact ⟨[], rfl, .nil⟩
  | (a, x) :: vs, (b, y) :: ds, kvs, .cons z r, e => by
    unfold kvsD at e
    cases hk : keyD b with
    | none => rw [hk] at e; cases e
    | some k =>
      cases hr : kvsD ds with
      | none => rw [hk, hr] at e; cases e
      | some rs =>
        rw [hk, hr] at e
        cases e
        obtain ⟨xs, rfl, rr⟩ := kvsD_ok r hr
        refine ⟨(k, x) :: xs, ?_, .cons ⟨rfl, z.2⟩ rr⟩
        have := z.1.key hk
        simp at this
        rw [this]; rfl
@[simp] def mergeD (kvs : List (Key × PyData)) : List (Key × PyData) → List (Key × PyData)
  | [] => kvs
  | (k, v) :: r => mergeD (putD kvs k v) r
theorem KP.merge {N : Addr → Prop} {H : Hp} {h : Lh} : ∀ {ys : List (Key × V)} {es : List (Key × PyData)} {xs : List (Key × V)} {ds : List (Key × PyData)}, KP Key K N H h ys es → KP Key K N H h xs ds → KP Key K N H h (mergeK xs ys) (mergeD ds es)
  | _, _, _, _, .nil, r => r
  | (a, x) :: ys, (b, y) :: es, xs, ds, .cons z q, r => by
    obtain ⟨z1, z2⟩ := z
    cases z1
    show KP Key K N H h (mergeK (L2.putK xs a x) ys) (mergeD (putD ds a y) es)
    exact KP.merge q (KP.put z2 r)
/-- a dict is always mutable -/
@[simp] def wDisp (r : WP) : WE := fun ρ h P => r ρ h fun ps h1 => ps.length ≤ 15 ∧ ∃ kvs, kvsD ps = some kvs ∧ ∀ p, h p = none → h1 p = none → P (rf p) (up h1 p (.dK (mergeD [] kvs)))
instance {trs : List (TE × TE)} {r : WP} [R : RP K XX trs r] : RE K XX (tDisp trs) (wDisp r) := ⟨fun {N σ H ρ h P Q} S e p k D hD => by
  have hN0 : ∀ a, (N a ∨ a = D) → N a ∨ H a = none := fun a z => z.imp id fun e => by rw [e]; exact hD
  have tN : Tr H h (L2.upd H D (.dK [])) h := Tr.new hD
  have S1 : Sx K XX (fun a => N a ∨ a = D) (L2.upd H D (.dK [])) h := S.more hD
  have E1 : En K (fun a => N a ∨ a = D) (L2.upd H D (.dK [])) h σ ρ := (e.mono (fun v d => Rl.hid hN0)).tr tN
  refine R.run S1 E1 p fun vs ds H2 h2 t2 S2 r2 ⟨l, kvs, ek, p2⟩ => ?_
  have hDn : ∀ {H' : Hp} {h' : Lh}, Sim K (fun a => N a ∨ a = D) H' h' → h' D = none := fun {H' h'} S' => by
    cases z : h' D with
    | none => rfl
    | some o => exact absurd (.inr rfl) (S'.at_ D o z).1
  have hD2 : H2 D = some (.dK []) := (t2.k D _ upd_same (hDn S1.toSim)).1
  obtain ⟨xs, rfl, rr⟩ := kvsD_ok r2 ek
  refine ⟨hD2, xs, rfl, by have := Paired.len r2; rw [List.length_map] at this; omega, ?_⟩
  have f : ∀ a o, H2 a = some o → h2 a = none → ¬ (N a ∨ a = D) → L2.upd H2 D (.dK (mergeK [] xs)) a = some o ∧ up h2 D (.dK (mergeD [] kvs)) a = none ∧ ¬ N a := fun a o e1 e2 e3 => by
    have ne : a ≠ D := fun z => e3 (.inr z)
    exact ⟨by rw [upd_ne ne]; exact e1, by rw [up_ne ne]; exact e2, fun z => e3 (.inl z)⟩
  have t3 : Tr H h (L2.upd H2 D (.dK (mergeK [] xs))) (up h2 D (.dK (mergeD [] kvs))) := ⟨fun a o e1 e2 => by
    have ne : a ≠ D := fun z => by rw [z, hD] at e1; cases e1
    have := (tN.trans t2).k a o e1 e2
    exact ⟨by rw [upd_ne ne]; exact this.1, by rw [up_ne ne]; exact this.2⟩, fun a q => (tN.trans t2).n a (upd_none q)⟩
  refine k _ _ _ _ t3 (S.to t3 ⟨fun a o q => ?_, fun a z => ?_⟩) (.rf D) (p2 D (S.hn hD) (hDn S2.toSim))
  · by_cases c : a = D
    · subst c
      rw [up_same] at q
      cases q
      exact ⟨S.nn hD, _, upd_same, .dK (Paired.mono2 (fun a b z => ⟨z.1, Rl.trN f z.2⟩) (KP.merge rr .nil))⟩
    · rw [up_ne c] at q
      obtain ⟨n', u', e', k'⟩ := S2.at_ a o q
      exact ⟨fun z => n' (.inl z), u', by rw [upd_ne c]; exact e', k'.mono (fun v d => Rl.trN f) (fun v d => Rls.trN f)⟩
  · by_cases c : a = D
    · subst c; exact ⟨_, upd_same, fun xs z => nomatch z⟩
    · rw [upd_ne c]; exact S2.hid a (.inl z)⟩
@[simp] theorem putD_cons {κ : Type} [DecidableEq κ] {p : κ × PyData} {r : List (κ × PyData)} {k : κ} {v : PyData} (h : ¬ p.1 = k) : putD (p :: r) k v = p :: putD r k v := by rw [putD, if_neg h]
@[simp] theorem putD_hit {κ : Type} [DecidableEq κ] {u v : PyData} {r : List (κ × PyData)} {k : κ} : putD ((k, u) :: r) k v = (k, v) :: r.map (fun kv => if kv.1 = k then (kv.1, v) else kv) := by rw [putD, if_pos rfl]
end
end Wl
set_option Elab.async false
set_option linter.all false
set_option maxRecDepth 100000
set_option maxHeartbeats 4000000
/-! ### from a law's plain promise to the walk's -/
namespace Wl
open PySem PySem.Spec PyProof.Rows L2 Evl Pd
def D_lawT (ds : List PyData) (h : Lh) (P : Wv) : Prop := ∃ ns : List Int, ds = [.dict [(.none, .tuple (ns.map .int))]] ∧ ns.length ≤ 63 ∧ h = (fun _ => none) ∧ ∀ h', P (.bool true) h'
def sp_lawT (K : PySem.W.Frag) : Sp := fun vs H Q _ => ∃ (a : Addr) (ns : List Int), vs = [.ref a] ∧ SqL K H a (ns.map V.int) ∧ ns.length ≤ 63 ∧ ∀ H', Q (.bl true) H'
theorem lawT {P : Program} {w : World} {K : PySem.W.Frag} {mg : Str → Option Value} {base : Heap} {CX : CXT} {k : Nat} {f : Addr} {fd : FuncData} {ps : List Str} (L : FnOk P w K mg base CX k f fd ps (SpW K D_lawT)) : FnOk P w K mg base CX k f fd ps (sp_lawT K) := L.imp fun vs H Q E ⟨a, ns, e, hs, hl, kk⟩ => by
  subst e
  refine ⟨fun _ => False, fun _ => none, _, fun d _ => d = .bool true, fun _ _ _ => False, Sx.noX ⟨fun a o z => (nomatch z), fun _ z => z.elim⟩, .cons (.scr ns ?_) .nil, ⟨ns, rfl, hl, rfl, fun _ => rfl⟩, ?_⟩
  · rcases hs with r | r
    · exact .inl ⟨r, rfl, fun z => z⟩
    · exact .inr r
  · intro v d H' h' t S r e
    subst e
    cases r
    exact kk _
end Wl
set_option Elab.async false
set_option linter.all false
set_option maxRecDepth 100000
set_option maxHeartbeats 2000000
/-! Wj: sets of ints, list.extend, unreached statements. -/
namespace Wl
open PySem PySem.Spec PyProof.Rows L2 Evl Pd
/-- a statement that is not reached -/
def tNever : TS := fun _ _ _ => False
theorem ps_never {X : Cx} {s : Stmt} : PS X s tNever := ⟨fun _ _ _ _ _ _ z => z.elim⟩
@[simp] def wNever : WS := fun _ _ _ => False
section
variable {K : PySem.W.Frag} {XX : XP} {N : Addr → Prop} {H : Hp} {h : Lh} {w : World}
instance : RS K XX tNever wNever := ⟨fun S E p k => p.elim⟩
theorem Sim.set {a b : Addr} {ks : List Int} (S : Sim K N H h) (e : h a = some (.set w b ks)) : H a = some (SetO w b (fun j => decide (j ∈ ks)) ks.length) := by
  obtain ⟨n, u, z, k⟩ := S.at_ a _ e
  cases k with
  | set => exact z
@[simp] def fSet0 (w : World) (ds : List PyData) (h : Lh) (P : Wv) : Prop := ds = [] ∧ ∀ p, h p = none → P (rf p) (up h p (.set w p []))
instance : RCW K (rSet0 w) (fSet0 w) := ⟨fun {XX N H h vs ds P Q} S r ⟨e, p⟩ k => by
  subst e
  cases r
  refine ⟨rfl, fun q hq => ?_⟩
  have e0 : (fun _ : Int => false) = fun j => decide (j ∈ ([] : List Int)) := by funext j; simp
  have t : Tr H h _ _ := Tr.put (v := SetO w q (fun j => decide (j ∈ ([] : List Int))) 0) (l := .set w q []) (.inl hq)
  rw [e0]
  exact (k.tr t).at (S.put (.inl hq) (.set w q [])) (.rf q) (p q (S.toSim.hn hq))⟩
@[simp] def fSIn (w : World) (neg : Bool) (d e : PyData) (h : Lh) (P : Wv) : Prop := ∃ k a ks, d = .int k ∧ e = rf a ∧ h a = some (.set w a ks) ∧ P (.bool (if neg then !decide (k ∈ ks) else decide (k ∈ ks))) h
instance : R2W K (rSIn w) (fSIn w false) := ⟨fun S a c ⟨k, q, ks, e1, e2, e3, p⟩ kk => ⟨k, q, _, _, by rw [e1] at a; exact a.i, c.r (a := q) (by rw [e2]; exact asR_rf q), S.toSim.set e3, kk.at S (.bl _) p⟩⟩
instance : R2W K (rSNotIn w) (fSIn w true) := ⟨fun S a c ⟨k, q, ks, e1, e2, e3, p⟩ kk => ⟨k, q, _, _, by rw [e1] at a; exact a.i, c.r (a := q) (by rw [e2]; exact asR_rf q), S.toSim.set e3, kk.at S (.bl _) p⟩⟩
@[simp] def wSAdd (w : World) (a : WE) (b : WA) : WE := fun ρ h P => a ρ h fun d h1 => (∃ p ks, d = rf p ∧ h1 p = some (.set w p ks)) ∧ b ρ h1 fun es h2 => ∃ p k ks, d = rf p ∧ es = [.int k] ∧ h2 p = some (.set w p ks) ∧ ks.length < 1000 ∧ P .none (up h2 p (.set w p (if k ∈ ks then ks else ks ++ [k])))
instance {ta : TE} {tb : TA} {a : WE} {b : WA} [A : RE K XX ta a] [B : RA K XX tb b] : RE K XX (tSAdd w ta tb) (wSAdd w a b) := ⟨fun S E p k =>
  A.run S E p fun v d H1 h1 t1 S1 r1 ⟨⟨q, ks, e1, e2⟩, p1⟩ => ⟨⟨q, _, _, r1.r (a := q) (by rw [e1]; exact asR_rf q), S1.toSim.set e2⟩, B.run S1 (E.tr t1) p1 fun vs es H2 h2 t2 S2 r2 ⟨q, i, ks, e1, e2, e3, l, p2⟩ => by
    subst e2
    obtain ⟨v2, rfl, i0⟩ := r2.one
    refine ⟨q, i, _, _, (r1.tr t2).r (a := q) (by rw [e1]; exact asR_rf q), by rw [i0.i], S2.toSim.set e3, by unfold scanBound; omega, ?_⟩
    have hp : H2 q = none ∨ h2 q ≠ none := .inr (by rw [e3]; intro z; cases z)
    have ee : (fun j => decide (j ∈ ks) || decide (j = i)) = fun j => decide (j ∈ (if i ∈ ks then ks else ks ++ [i])) := by
      funext j
      by_cases c : i ∈ ks
      · rw [if_pos c]
        by_cases cj : j = i
        · subst cj; simp [c]
        · simp [cj]
      · rw [if_neg c]; simp
    have el : (if decide (i ∈ ks) = true then ks.length else ks.length + 1) = (if i ∈ ks then ks else ks ++ [i]).length := by
      by_cases c : i ∈ ks
      · simp [c]
      · simp [c]
    rw [ee, el]
    have t : Tr H2 h2 _ _ := Tr.put (v := SetO w q (fun j => decide (j ∈ (if i ∈ ks then ks else ks ++ [i]))) (if i ∈ ks then ks else ks ++ [i]).length) (l := .set w q (if i ∈ ks then ks else ks ++ [i])) hp
    exact ((k.tr (t1.trans t2)).tr t).at (S2.put hp (.set w q _)) .non p2⟩⟩
@[simp] def fExt (d : PyData) (es : List PyData) (h : Lh) (P : Wv) : Prop := ∃ p q ds fs, d = rf p ∧ es = [rf q] ∧ h p = some (.lst ds) ∧ h q = some (.lst fs) ∧ ds.length + fs.length ≤ 100000 ∧ P .none (up h p (.lst (ds ++ fs)))
instance : RMW K rExtend fExt := ⟨fun S rx rs ⟨p, q, ds, fs, e1, e2, e3, e4, l, pp⟩ k => by
  subst e2
  obtain ⟨v2, rfl, i0⟩ := rs.one
  obtain ⟨xs, z, r⟩ := Rl.lvH S e3
  obtain ⟨ys, z2, r2⟩ := Rl.lvH S e4
  exact ⟨p, q, xs, ys, rx.r (a := p) (by rw [e1]; exact asR_rf p), by rw [i0.r (a := q) (asR_rf q)], z, z2, by rw [r.length, r2.length]; exact sz_of l, lst_put S e3 (r.append r2) .non k pp⟩⟩
end
end Wl
set_option Elab.async false
set_option linter.all false
set_option maxRecDepth 100000
set_option maxHeartbeats 2000000
/-! Wk: match, sum, e.f += v. -/
namespace Wl
open PySem PySem.Spec PyProof.Rows L2 Evl Pd
abbrev WMc := List PyData → WS
class RMc (K : PySem.W.Frag) (XX : XP) (t : TMc) (w : outParam WMc) : Prop where
  run : ∀ {N : Addr → Prop} {σ : L2.St} {H : Hp} {ρ : Ev'} {h : Lh} {E : WEnds} {D : Ends} {xs : List V} {ds : List PyData}, Sx K XX N H h → En K N H h σ ρ → Rls K N H h xs ds → w ds E ρ h → EnK K XX N H h E D → t xs D σ H
@[simp] def wMEnd : WMc := fun _ E ρ h => E.nx ρ h
@[simp] def setAllD : Ev' → List (Option Nat) → List PyData → Ev'
  | ρ, some i :: is, d :: ds => setAllD (ρ.set i (some d)) is ds
  | ρ, none :: is, _ :: ds => setAllD ρ is ds
  | ρ, _, _ => ρ
@[simp] def wMSeq (w : Str) (is : List (Option Nat)) (b : WS) (r : WMc) : WMc := fun ds E ρ h => if ds.length = is.length + 1 then ∃ x es, ds = .str x :: es ∧ (if x = w then b E (setAllD ρ is es) h else r ds E ρ h) else r ds E ρ h
@[simp] def wMatch (a : WE) (m : WMc) : WS := fun E ρ h => a ρ h fun d h1 => ∃ ds, tv d = some ds ∧ m ds E ρ h1
section
variable {K : PySem.W.Frag} {XX : XP} {N : Addr → Prop} {H : Hp} {h : Lh}
theorem En.setAll : ∀ {is : List (Option Nat)} {vs : List V} {ds : List PyData} {σ : L2.St} {ρ : Ev'}, En K N H h σ ρ → Rls K N H h vs ds → En K N H h (Pd.setAll σ is vs) (setAllD ρ is ds)
  | [], _, _, _, _, e, _ => by unfold Pd.setAll setAllD; exact e
  | some i :: is, _, _, _, _, e, .nil => by unfold Pd.setAll setAllD; exact e
  | none :: is, _, _, _, _, e, .nil => by unfold Pd.setAll setAllD; exact e
  | some i :: is, _, _, _, _, e, .cons a b => by unfold Pd.setAll setAllD; exact En.setAll (e.set i a) b
  | none :: is, _, _, _, _, e, .cons a b => by unfold Pd.setAll setAllD; exact En.setAll e b
instance : RMc K XX mEnd wMEnd := ⟨fun S E r p k => k.nx _ _ _ _ (Tr.refl _ _) S E p⟩
instance {w : Str} {is : List (Option Nat)} {tb : TS} {tr : TMc} {b : WS} {r : WMc} [B : RS K XX tb b] [R : RMc K XX tr r] : RMc K XX (mSeq w is tb tr) (wMSeq w is b r) := ⟨fun {N σ H ρ h E D xs ds} S En rl p k => by
  unfold mSeq
  unfold wMSeq at p
  rw [rl.length]
  by_cases c : ds.length = is.length + 1
  · rw [if_pos c] at p ⊢
    obtain ⟨x, es, rfl, p⟩ := p
    cases rl with
    | cons a rl' =>
      have ea := a.s
      subst ea
      refine ⟨x, _, rfl, ?_⟩
      by_cases z : x = w
      · rw [if_pos z] at p ⊢
        exact B.run S (En.setAll rl') p k
      · rw [if_neg z] at p ⊢
        exact R.run S En (.cons a rl') p k
  · rw [if_neg c] at p ⊢
    exact R.run S En rl p k⟩
instance {te : TE} {tm : TMc} {a : WE} {m : WMc} [A : RE K XX te a] [M : RMc K XX tm m] : RS K XX (Pd.tMatch K te tm) (wMatch a m) := ⟨fun {N σ H ρ h E D} S En p k =>
  A.run S En p fun v d H1 h1 t1 S1 r1 ⟨ds, e, p1⟩ => by
    obtain ⟨q, xs, rfl, t, r⟩ := r1.tv e
    exact ⟨q, xs, rfl, t, M.run S1 (En.tr t1) r p1 (k.tr t1)⟩⟩
theorem Rls.ofInts : ∀ {ns : List Int} {xs : List V}, Rls K N H h xs (ns.map PyData.int) → xs = ns.map V.int
  | [], _, .nil => rfl
  | n :: ns, _, .cons a b => by rw [a.i, Rls.ofInts b]; rfl
@[simp] def fSum (ds : List PyData) (h : Lh) (P : Wv) : Prop := ∃ (d : PyData) (ns : List Int), ds = [d] ∧ Wl.lv h d = some (ns.map PyData.int) ∧ P (.int ns.sum) h
instance : RCW K (rSum K) fSum := ⟨fun S r ⟨d, ns, e, l, p⟩ k => by
  subst e
  obtain ⟨v, rfl, rv⟩ := r.one
  obtain ⟨a, xs, rfl, t, rr⟩ := rv.lv S l
  cases rr.ofInts
  exact ⟨a, ns, rfl, t, k.at S (.int _) p⟩⟩
@[simp] def fAddI (d e : PyData) (h : Lh) (P : Wv) : Prop := ∃ i j, d = .int i ∧ e = .int j ∧ P (.int (i + j)) h
instance : R2W K L2.rAdd fAddI := ⟨fun S a b ⟨i, j, e1, e2, p⟩ k => by
  subst e1 e2
  exact ⟨i, j, a.i, b.i, k.at S (.int _) p⟩⟩
@[simp] def wFldAug (K : PySem.W.Frag) (a b : WE) (g : PyData → PyData → Lh → Wv → Prop) (f : Str) : WS := fun E ρ h => a ρ h fun d h1 => ∃ p C fs v, d = rf p ∧ h1 p = some (.ins C fs) ∧ Cls K C ∧ NoAttr K C f ∧ lkD f fs = some v ∧
  b ρ h1 fun e h2 => g v e h2 fun z h3 => ∃ fs', h3 p = some (.ins C fs') ∧ fs'.length < 1000 ∧ E.nx ρ (up h3 p (.ins C (putFD f z fs')))
instance {ta tb : TE} {a b : WE} {rd : R2} {g : PyData → PyData → Lh → Wv → Prop} {f : Str} [A : RE K XX ta a] [B : RE K XX tb b] [R : R2W K rd g] : RS K XX (sFldAug K ta tb rd f) (wFldAug K a b g f) := ⟨fun {N σ H ρ h E D} S En p k =>
  A.run S En p fun v d H1 h1 t1 S1 r1 ⟨q, C, fs, y, e, e2, c1, c2, e3, p1⟩ => by
    obtain ⟨dx, xs, z, pr⟩ := Rl.insH S1 e2
    obtain ⟨w, hw, rw'⟩ := (Paired.lookup pr).2 y e3
    refine ⟨q, C, dx, xs, w, r1.r (a := q) (by rw [e]; exact asR_rf q), z, c1, c2, hw, B.run S1 (En.tr t1) p1 fun y2 d2 H2 h2 t2 S2 r2 p2 => R.run S2 (rw'.tr t2) r2 p2 fun v3 d3 H3 h3 t3 S3 r3 ⟨fs3, e5, l3, p3⟩ => ?_⟩
    obtain ⟨dx3, xs3, z3, pr3⟩ := Rl.insH S3 e5
    have hp : H3 q = none ∨ h3 q ≠ none := .inr (by rw [e5]; intro z; cases z)
    have t := (t1.trans t2).trans t3
    have t4 : Tr H3 h3 (L2.upd H3 q (.ins C dx3 (L2.putF f v3 xs3))) (up h3 q (.ins C (putFD f d3 fs3))) := Tr.put hp
    exact ⟨dx3, xs3, z3, by rw [Paired.len pr3]; exact l3, k.nx _ _ _ _ (t.trans t4) (S3.put hp (.ins (Paired.putF r3 pr3))) (En.tr (t.trans t4)) p3⟩⟩
end
end Wl
set_option Elab.async false
set_option linter.all false
set_option maxRecDepth 100000
set_option maxHeartbeats 4000000
/-! Wl2: dict comprehensions (the dict is a new mutable object). -/
namespace L2
open PySem PySem.Spec PyProof.Rows
theorem dc_it {J : It} {n : Nat} {G : Hp → Prop} {Y : Nat → Hp → V → Hp → Prop} (w : Walk J n G Y) {g : TG} {tt : TT} {tk tv : TE} {vs : List Nat} {σ : St} {H1 : Hp} {D : Addr} {Qd : Hp → Prop} (Pv : Nat → Hp → Prop) (h0 : Pv 0 (upd H1 D (.dK []))) (hG : ∀ i H, i ≤ n → Pv i H → G H)
    (hs : ∀ i x H H', i < n → Pv i H → Y i H x H' → g x (wipe σ vs) H' fun σ2 H2 => wipe σ2 vs = wipe σ vs ∧ tt σ2 H2 fun b H3 =>
      if b = true then tk σ2 H3 fun y H4 => tv σ2 H4 fun z H5 => ∃ kvs k, y = kV k ∧ H5 D = some (.dK kvs) ∧ kvs.length < sizeLine ∧ Pv (i + 1) (upd H5 D (.dK (putK kvs k z))) else Pv (i + 1) H3) (hd : ∀ H, Pv n H → Qd H) :
    ∃ W : Nat → Nat → Hp → Prop, (∃ m, W 0 m (upd H1 D (.dK []))) ∧ ∀ i m H, W i m H →
      (J.stop i H ∧ Qd H) ∨ (J.go i H ∧ ∃ Nx : Hp → Prop, (∀ H', Nx H' → ∃ m', m' < m ∧ W (i + 1) m' H') ∧ ∀ x H', J.yld i H x H' → g x (wipe σ vs) H' fun σ2 H2 => wipe σ2 vs = wipe σ vs ∧ tt σ2 H2 fun b H3 =>
        if b = true then tk σ2 H3 fun y H4 => tv σ2 H4 fun z H5 => ∃ kvs k, y = kV k ∧ H5 D = some (.dK kvs) ∧ kvs.length < sizeLine ∧ Nx (upd H5 D (.dK (putK kvs k z))) else Nx H3) := by
  refine ⟨fun i m H => m = n - i ∧ i ≤ n ∧ Pv i H, ⟨n, by simp, Nat.zero_le _, h0⟩, ?_⟩
  rintro i m H ⟨rfl, hi, p⟩
  have q := hG i H hi p
  by_cases hlt : i < n
  · refine .inr ⟨w.goes i H hlt q, Pv (i + 1), fun H' p' => ⟨n - (i + 1), by omega, rfl, hlt, p'⟩, fun x H' y => hs i x H H' hlt p (w.yields i H x H' hlt q y)⟩
  · have e : i = n := by omega
    subst e
    exact .inl ⟨w.stops H q, hd H p⟩
end L2
namespace Wl
open PySem PySem.Spec PyProof.Rows L2 Evl Pd
@[simp] def dcL (keep : Lh → Prop) (g : WG) (t : WT) (ek ev : WE) (ρ : Ev') (P : List (Key × PyData) → Lh → Prop) : List PyData → List (Key × PyData) → Lh → Prop
  | [], acc, h => keep h ∧ P acc h
  | d :: ds, acc, h => keep h ∧ acc.length < 100000 ∧ g d ρ h fun ρ1 h1 => t ρ1 h1 fun b h2 => wCond b (ek ρ1 h2 fun y h3 => ev ρ1 h3 fun x h4 => ∃ k, keyD y = some k ∧ dcL keep g t ek ev ρ P ds (putD acc k x) h4) (dcL keep g t ek ev ρ P ds acc h2)
@[simp] def wDc (s : WI) (g : WG) (t : WT) (ek ev : WE) (vs : List Nat) : WE := fun ρ h P => s ρ h fun ds keep h1 => dcL keep g t ek ev (wipeD ρ vs) (fun kvs h2 => ∀ p, h p = none → h2 p = none → P (rf p) (up h2 p (.dK kvs))) ds [] h1
theorem dcL_keep {keep : Lh → Prop} {g : WG} {t : WT} {ek ev : WE} {ρ : Ev'} {P : List (Key × PyData) → Lh → Prop} {ds : List PyData} {acc : List (Key × PyData)} {h : Lh} (p : dcL keep g t ek ev ρ P ds acc h) : keep h := by
  cases ds <;> exact p.1
/-- a hidden dict comes out -/
theorem Ko.refD {K : PySem.W.Frag} {XX : XP} {N : Addr → Prop} {H H' : Hp} {h h' : Lh} {Q : VK} {P : Wv} {p : Addr} {xs : List (Key × V)} {kvs : List (Key × PyData)} (k : Ko K XX N H h P Q) (S : Sx K XX N H h) (n : H p = none) (t : Tr H h H' h') (S' : Sx K XX (fun a => N a ∨ a = p) H' h') (e : H' p = some (.dK xs))
    (r : KP Key K (fun a => N a ∨ a = p) H' h' xs kvs) (q : ∀ p, h p = none → h' p = none → P (rf p) (up h' p (.dK kvs))) : Q (.ref p) H' := by
  have np : ¬ N p := S.nn n
  have hp' : h' p = none := by
    cases z : h' p with
    | none => rfl
    | some o => exact absurd (.inr rfl) (S'.at_ p o z).1
  have f : ∀ a o, H' a = some o → h' a = none → ¬ (N a ∨ a = p) → H' a = some o ∧ up h' p (.dK kvs) a = none ∧ ¬ N a := fun a o e1 e2 e3 => by
    have ne : a ≠ p := fun z => e3 (.inr z)
    exact ⟨e1, by rw [up_ne ne]; exact e2, fun z => e3 (.inl z)⟩
  have t2 : Tr H h H' (up h' p (.dK kvs)) := ⟨fun a o e1 e2 => by
    have ne : a ≠ p := fun z => by rw [z, n] at e1; cases e1
    exact ⟨(t.k a o e1 e2).1, by rw [up_ne ne]; exact (t.k a o e1 e2).2⟩, t.n⟩
  refine k _ _ H' (up h' p (.dK kvs)) t2 (S.to t2 ⟨fun a o q => ?_, fun a z => S'.hid a (.inl z)⟩) (.rf p) (q p (S.hn n) hp')
  by_cases c : a = p
  · subst c
    rw [up_same] at q
    cases q
    exact ⟨np, _, e, .dK (Paired.mono2 (fun a b z => ⟨z.1, z.2.trN f⟩) r)⟩
  · rw [up_ne c] at q
    obtain ⟨n', u', e', k'⟩ := S'.at_ a o q
    exact ⟨fun z => n' (.inl z), u', e', k'.mono (fun v d => Rl.trN f) (fun v d => Rls.trN f)⟩
section
variable {K : PySem.W.Frag} {XX : XP} {vs : List Nat}
instance {ti : TI} {tg : TG} {tt : TT} {tk tv : TE} {s : WI} {g : WG} {t : WT} {ek ev : WE} [I : RI K XX ti s] [G : RGC K XX vs tg g] [T : RT K XX tt t] [EK : RE K XX tk ek] [EV : RE K XX tv ev] : RE K XX (tDc ti tg tt tk tv vs) (wDc s g t ek ev vs) := ⟨fun {N σ H ρ h P Q} S En0 p k =>
  I.run S En0 p fun J H2 h2 ds keep Gd Y t2 S2 p2 W hG hY D hD => by
    have hN : ∀ a, (N a ∨ a = D) → N a ∨ H2 a = none := fun a z => z.imp id fun e => by rw [e]; exact hD
    have hD0 : H D = none := t2.n D hD
    have hN0 : ∀ a, (N a ∨ a = D) → N a ∨ H a = none := fun a z => z.imp id fun e => by rw [e]; exact hD0
    have tN : Tr H2 h2 (L2.upd H2 D (.dK [])) h2 := Tr.new hD
    refine dc_it W (fun i H' => ∃ h' acc accd, H' D = some (.dK acc) ∧ Tr H2 h2 H' h' ∧ Sx K XX (fun a => N a ∨ a = D) H' h' ∧ KP Key K (fun a => N a ∨ a = D) H' h' acc accd ∧ dcL keep g t ek ev (wipeD ρ vs) (fun kvs h2 => ∀ p, h p = none → h2 p = none → P (rf p) (up h2 p (.dK kvs))) (ds.drop i) accd h')
      ⟨h2, [], [], upd_same, tN, S2.more hD, .nil, p2⟩ (fun i H' _ ⟨h', acc, accd, q1, q2, q3, q4, q5⟩ => hG _ H' h' hN q2 q3 (dcL_keep q5)) (fun i x H' H4 hi ⟨h', acc, accd, q1, q2, q3, q4, q5⟩ y => ?_) fun H' ⟨h', acc, accd, q1, q2, q3, q4, q5⟩ => ?_
    · obtain ⟨d, hd, t4, _, S4, r4⟩ := hY _ i H' h' x H4 hN q2 q3 (dcL_keep q5) y
      have hdr : ds.drop i = d :: ds.drop (i + 1) := by
        have hl : i < ds.length := hi
        rw [List.drop_eq_getElem_cons hl]
        have : ds[i] = d := by simpa [hl] using hd
        rw [this]
      rw [hdr] at q5
      have E4 : En K (fun a => N a ∨ a = D) H4 h' (wipe σ vs) (wipeD ρ vs) := (((En0.mono (fun v d => Rl.hid hN0)).tr (t2.trans (q2.trans t4)))).wipe vs
      have hDn : ∀ {H' : Hp} {h' : Lh}, Sx K XX (fun a => N a ∨ a = D) H' h' → h' D = none := fun {H' h'} S' => by
        cases z : h' D with
        | none => rfl
        | some o => exact absurd (.inr rfl) (S'.at_ D o z).1
      refine G.run S4 E4 r4 q5.2.2 fun σ5 ρ5 E5 w5 p5 => ⟨by rw [w5, wipe_twice], T.run S4 E5 p5 fun b H6 h6 t6 S6 p6 => p6.on (fun z => ?_) fun z => ?_⟩
      · refine EK.run S6 (E5.tr t6) z fun y yd H7 h7 t7 S7 r7 p7 => EV.run S7 ((E5.tr t6).tr t7) p7 fun v d8 H8 h8 t8 S8 r8 ⟨kk, ek1, p8⟩ => ?_
        have tt := ((t4.trans t6).trans t7).trans t8
        have q17 : H8 D = some (.dK acc) := (tt.k D _ q1 (hDn q3)).1
        have tD : Tr H2 h2 (L2.upd H8 D (.dK (L2.putK acc kk v))) h8 := ⟨fun a o e1 e2 => by
          have ne : a ≠ D := fun z => by rw [z, hD] at e1; cases e1
          obtain ⟨z1, z2⟩ := (q2.trans tt).k a o e1 e2
          exact ⟨by rw [upd_ne ne]; exact z1, z2⟩, fun a e1 => (q2.trans tt).n a (upd_none e1)⟩
        refine ⟨acc, kk, (r7.tr t8).key ek1, q17, sz_lt (by rw [KP.len q4]; exact q5.2.1), h8, L2.putK acc kk v, putD accd kk d8, upd_same, tD, ⟨S8.toSim.hidUpd (.inr rfl), (S2.x.tr tD).hid fun a z => .inl z⟩, ?_, p8⟩
        have f : ∀ a o, H8 a = some o → h8 a = none → ¬ (N a ∨ a = D) → L2.upd H8 D (.dK (L2.putK acc kk v)) a = some o ∧ h8 a = none ∧ ¬ (N a ∨ a = D) := fun a o e1 e2 e3 => ⟨by rw [upd_ne (fun z => e3 (.inr z))]; exact e1, e2, e3⟩
        exact Paired.mono2 (fun a b z => ⟨z.1, z.2.trN f⟩) (KP.put r8 (KP.tr tt q4))
      · have tt := t4.trans t6
        exact ⟨h6, acc, accd, (tt.k D _ q1 (hDn q3)).1, q2.trans tt, S6, KP.tr tt q4, z⟩
    · rw [List.drop_length] at q5
      exact k.refD S hD0 (t2.trans q2) q3 q1 q4 q5.2⟩
end
end Wl
set_option Elab.async false
set_option linter.all false
set_option maxRecDepth 100000
set_option maxHeartbeats 4000000
/-! Wm: walks of a dict (locked while it is walked). -/
namespace Wl
open PySem PySem.Spec PyProof.Rows L2 Evl Pd
@[simp] def keyP : Key → PyData
  | .inl i => .int i
  | .inr s => .str s
@[simp] theorem keyD_keyP {k : Key} : keyD (keyP k) = some k := by cases k <;> rfl
theorem Rl.kV {K : PySem.W.Frag} {N : Addr → Prop} {H : Hp} {h : Lh} : ∀ k : Key, Rl K N H h (L2.kV k) (keyP k)
  | .inl i => .int i
  | .inr s => .str s
@[simp] def wIItems (a : WE) : WI := fun ρ h P => a ρ h fun d h1 => ∃ p od xs kvs, d = rf p ∧ h1 p = some (.lk od xs kvs) ∧ P (kvs.map fun kv => .tuple [keyP kv.1, kv.2]) (fun h3 => h3 p = some (.lk od xs kvs)) h1
@[simp] def wLockE (a : WE) : WE := fun ρ h P => ∃ d kvs, h d = some (.dK kvs) ∧ ∀ od xs, a ρ (up h d (.lk od xs kvs)) fun v h' => h' d = some (.lk od xs kvs) ∧ P v (up h' d (.dK kvs))
section
variable {K : PySem.W.Frag} {XX : XP} {N : Addr → Prop} {H : Hp} {h : Lh}
theorem KPat : ∀ {xs : List (Key × V)} {kvs : List (Key × PyData)} {i : Nat} {x : Key × V}, KP Key K N H h xs kvs → xs[i]? = some x → ∃ d, kvs[i]? = some (x.1, d) ∧ Rl K N H h x.2 d
  | _, _, i, _, .nil, e => by cases e
  | _, _, 0, _, .cons (b := b) a r, e => by
    cases e
    exact ⟨b.2, by rw [a.1]; rfl, a.2⟩
  | _, _, i + 1, _, .cons a r, e => KPat (i := i) r e
instance {td : TE} {a : WE} [A : RE K XX td a] : RI K XX (iItems td) (wIItems a) := ⟨fun {N σ H ρ h P R} S E p k => A.run S E p fun v d H1 h1 t1 S1 r1 ⟨q, od, xs, kvs, e, e2, p1⟩ => by
  have at3 : ∀ (N' : Addr → Prop) (H3 : Hp) (h3 : Lh), Sx K XX N' H3 h3 → h3 q = some (.lk od xs kvs) → H3 q = some (.frz od (.dK xs)) ∧ KP Key K N' H3 h3 xs kvs := fun N' H3 h3 S3 e3 => by
    obtain ⟨n, u, z, k3⟩ := S3.toSim.at_ q _ e3
    cases k3 with
    | lk r => exact ⟨z, r⟩
  refine ⟨q, od, xs, r1.r (a := q) (by rw [e]; exact asR_rf q), (at3 _ _ _ S1 e2).1, k _ H1 h1 (kvs.map fun kv => .tuple [keyP kv.1, kv.2]) _ (fun H => H q = some (.frz od (.dK xs))) (YPair (fun i => xs[i]?.map fun kv => L2.kV kv.1) (fun i => xs[i]?.map Prod.snd)) t1 S1 p1 (by
    rw [List.length_map, ← KP.len (at3 _ _ _ S1 e2).2]; exact walk_items) (fun N' H3 h3 hN t3 S3 kp => (at3 _ _ _ S3 kp).1) fun N' i H3 h3 x H4 hN t3 S3 kp ⟨T, x1, y1, ex, hT, eH, f1, f2⟩ => ?_⟩
  subst ex eH
  obtain ⟨z, r3⟩ := at3 _ _ _ S3 kp
  replace f1 : xs[i]?.map (fun kv => L2.kV kv.1) = some x1 := f1
  replace f2 : xs[i]?.map Prod.snd = some y1 := f2
  cases hx : xs[i]? with
  | none => rw [hx] at f1; cases f1
  | some kv =>
    rw [hx] at f1 f2
    cases f1
    cases f2
    obtain ⟨dd, hd, rd⟩ := KPat r3 hx
    have tT : Tr H3 h3 (L2.upd H3 T (.tup [L2.kV kv.1, kv.2])) h3 := Tr.new hT
    exact ⟨.tuple [keyP kv.1, dd], by rw [List.getElem?_map, hd]; rfl, tT, Ex.new hT, S3.to tT (S3.toSim.new hT), .tup (.inl ⟨upd_same, S3.toSim.hn hT, S3.toSim.nn hT⟩) (.cons (Rl.kV _) (.cons (rd.tr tT) .nil))⟩⟩
instance {te : TE} {a : WE} [A : RE K XX te a] : RE K XX (tLockE te) (wLockE a) := ⟨fun {N σ H ρ h P Q} S E ⟨d, kvs, e, p⟩ k => by
  obtain ⟨xs, z, r⟩ := S.toSim.dK e
  refine ⟨d, _, z, trivial, fun od => ?_⟩
  have hp : H d = none ∨ h d ≠ none := .inr (by rw [e]; intro z; cases z)
  have t : Tr H h (L2.upd H d (.frz od (.dK xs))) (up h d (.lk od xs kvs)) := Tr.put hp
  refine A.run (S.put hp (.lk r)) (E.tr t) (p od xs) fun v dd H1 h1 t1 S1 r1 ⟨e1, p1⟩ => ?_
  obtain ⟨n, u, z1, k1⟩ := S1.toSim.at_ d _ e1
  cases k1 with
  | lk r2 =>
    have hp1 : H1 d = none ∨ h1 d ≠ none := .inr (by rw [e1]; intro z; cases z)
    have t2 : Tr H1 h1 (L2.upd H1 d (.dK xs)) (up h1 d (.dK kvs)) := Tr.put hp1
    exact ⟨z1, ((k.tr t).tr (t1.trans t2)).at (S1.put hp1 (.dK r2)) (r1.tr t2) p1⟩⟩
@[simp] def wDNew : WE := fun _ h P => ∀ p, h p = none → P (rf p) (up h p (.dK []))
instance : RE K XX tDNewK wDNew := ⟨fun {N σ H ρ h P Q} S E p k q hq => by
  have t : Tr H h (L2.upd H q (.dK [])) (up h q (.dK [])) := Tr.put (.inl hq)
  exact (k.tr t).at (S.put (.inl hq) (.dK .nil)) (.rf q) (p q (S.toSim.hn hq))⟩
end
end Wl
namespace Wl
open PySem PySem.Spec PyProof.Rows L2 Evl Pd
theorem k_extend {X : Cx} {K : PySem.W.Frag} (hK : X.K = K) {o e : Expr} {es : List Expr} {to : TE} {t : TA} {apos cpos : Pos} (ho : PE X o to) (ha : PA X (e :: es) t)
    (hbase : attributeBase o "extend" X.env (eval o X.env) = eval o X.env := by rfl)
    (hfew : ((backTo cpos (starEach (e :: es) X.env)).all (fun x => !x.1) && (backToKw cpos (keywordEach [] X.env)).all (fun x => x.1.isSome)
      && decide ((e :: es).length + ([] : List Keyword).length + (if ([] : List Keyword).isEmpty then 0 else 1) < 30)) = true := by rfl)
    (hline : (apos.endLine == cpos.line) = true := by rfl)
    (hs : starEach (e :: es) X.env = (false, eval e X.env) :: starEach es X.env := by rfl) (hpl : (backTo cpos (starEach es X.env)).any (·.1) = false := by rfl) :
    PE X (.Call (.Attribute o "extend" apos) (e :: es) [] cpos) (tBM K "list" rExtend to t) := by subst hK; exact pe_bm PySem.F.plainAttrs_list PySem.F.slot_list_extend PySem.F.type_list_extend mt_extend ho ha hbase hfew hline hs hpl
theorem k_psfldaug {X : Cx} {K : PySem.W.Frag} (hK : X.K = K) {o value : Expr} {f : Str} {pos tpos : Pos} {ta tv : TE} {op : Operator} {rd : V → V → Hp → VK → Prop} (ha : PE X o ta) (hv : PE X value tv) (hop : InOp X op rd) : PS X (.AugAssign (.Attribute o f tpos) op value pos) (sFldAug K ta tv rd f) := by subst hK; exact ps_fldaug ha hv hop
section
variable {X : Cx} {C : Addr} {m : Str} {k : Nat} {ps : List Str} {sp : Sp} {E : XK} {o : Expr} {ta : TE} {apos pos : Pos} {CX : CXT}
theorem pe_calM0 {pl : Sem Bool} (M : CalM X.prog X.w X.K X.mg X.base CX k C m ps sp) (c : Cls X.K C) (hr : Room k X.A) (hx : Passes CX X E) (he : PE X o ta)
    (ht : eval (.Call (.Attribute o m apos) [] [] pos) X.env = (do
      let ov ← eval o X.env
      standAt apos.atName
      let (f, first) ← holding [ov] (getMethod ov m pl)
      callWith pos f first (backTo pos (starEach [] X.env)) (backToKw pos (keywordEach [] X.env))) := by rfl) :
    PE X (.Call (.Attribute o m apos) [] [] pos) (tMeth C m sp [] E ta tNil) := by
  obtain ⟨f, fd, hm, hb, F⟩ := M.ex
  exact pe_meth0 he c hm F hr hb .nil hx ht
end
theorem k_set0 {X : Cx} {w : World} (hw : X.w = w) : CallR X (.type "set") (rSet0 w) := by subst hw; exact cr_set0
theorem k_sin {X : Cx} {w : World} (hw : X.w = w) : OpR X (compareOp .In) (rSIn w) := by subst hw; exact or_sin
theorem k_snotin {X : Cx} {w : World} (hw : X.w = w) : OpR X (compareOp .NotIn) (rSNotIn w) := by subst hw; exact or_snotin
theorem k_sadd {X : Cx} {w : World} (hw : X.w = w) {o e : Expr} {es : List Expr} {to : TE} {t : TA} {apos cpos : Pos} (ho : PE X o to) (ha : PA X (e :: es) t)
    (hbase : attributeBase o "add" X.env (eval o X.env) = eval o X.env := by rfl)
    (hfew : ((backTo cpos (starEach (e :: es) X.env)).all (fun x => !x.1) && (backToKw cpos (keywordEach [] X.env)).all (fun x => x.1.isSome)
      && decide ((e :: es).length + ([] : List Keyword).length + (if ([] : List Keyword).isEmpty then 0 else 1) < 30)) = true := by rfl)
    (hline : (apos.endLine == cpos.line) = true := by rfl) (hs : starEach (e :: es) X.env = (false, eval e X.env) :: starEach es X.env := by rfl) (hplain : (backTo cpos (starEach es X.env)).any (·.1) = false := by rfl) :
    PE X (.Call (.Attribute o "add" apos) (e :: es) [] cpos) (tSAdd w to t) := by subst hw; exact pe_sadd ho ha hbase hfew hline hs hplain
end Wl
set_option Elab.async false
set_option linter.all false
set_option maxRecDepth 100000
set_option maxHeartbeats 2000000
/-! Wn: instances made by calls with keywords. -/
namespace Pd
open PySem PySem.Spec PyProof.Rows L2 Evl
/-- the making of an instance with keywords -/
structure CalCK (P : Program) (w : World) (K : PySem.W.Frag) (mg : Str → Option Value) (base : Heap) (CX : CXT) (k : Nat) (x : Str) (C : Addr) (ps : List Str) (n : Nat) (ks : List Str) (sp : Sp) : Prop where
  ex : ∃ (f : Addr) (fd : FuncData), mg x = some (.ref C) ∧ Mk K C f ∧ KBn K fd ps (n + 1) ks (fun us ws => us ++ ws) (fun vs zs => vs ++ zs) ∧ FnOk P w K mg base CX k f fd ps sp
structure SrcCK (K : PySem.W.Frag) (mg : Str → Option Value) (x : Str) (C : Addr) (qual : Str) (st : Stmt) (ps : List Str) (n : Nat) (ks : List Str) : Prop where
  ex : ∃ (f : Addr) (fd : FuncData), mg x = some (.ref C) ∧ Mk K C f ∧ Fun K "__init__" qual st f fd ∧ KBn K fd ps (n + 1) ks (fun us ws => us ++ ws) (fun vs zs => vs ++ zs)
section
variable {P : Program} {w : World} {K : PySem.W.Frag} {mg : Str → Option Value} {base : Heap}
theorem SrcCK.cal {x : Str} {C : Addr} {qual : Str} {st : Stmt} {N ps ks : List Str} {k n : Nat} {sp : Sp} (F : SrcCK K mg x C qual st ps n ks) (S : FnScope N ps (defScope st)) (len : ∀ vs H Q E, sp vs H Q E → vs.length = ps.length)
    (hbody : ∀ (f : Addr) (cdv : Value) (A : Around) (outer : List Env) (s : Shared) (H : Hp) (vs : List V) (Q : VK) (E : XK), Room k (A.deeper (envOfC qual (defScope st) s.heap.objs.size f cdv)) → sp vs H Q E →
      ∃ t, PSs (cxOf CX0 P w K mg base N qual (defScope st) f cdv A outer s H E).nox (defBody st) t ∧ t { nx := fun _ H' => Q .non H', rt := Q } (start N vs) H) : CalCK P w K mg base CX0 (k + 1) x C ps n ks sp := by
  obtain ⟨f, fd, hx, hm, hF, hb⟩ := F.ex
  exact ⟨f, fd, hx, hm, hb, hF.ok S len fun cdv A outer s H vs Q E => hbody f cdv A outer s H vs Q E⟩
end
section
variable {X : Cx} {CX : CXT} {k n : Nat} {ps ks : List Str} {sp : Sp} {E : XK} {x : Str} {p pos : Pos} {e : Expr} {es : List Expr} {kws : List Keyword} {t tk : TA} {C : Addr}
theorem pe_mkCK (M : CalCK X.prog X.w X.K X.mg X.base CX k x C ps n ks sp) (hr : Room (k + 1) X.A) (hg : Gl X x) (hx : Passes CX X E) (ha : PA X (e :: es) t) (hkw : PK X kws tk)
    (hall : (backToKw pos (keywordEach kws X.env)).all (·.1.isSome) = true := by rfl) (hks : (backToKw pos (keywordEach kws X.env)).filterMap (·.1) = ks := by rfl) (hdb : (x == ("__debug__" : Str)) = false := by decide)
    (he : starEach (e :: es) X.env = (false, eval e X.env) :: starEach es X.env := by rfl) (hpl : ((backTo pos (starEach (e :: es) X.env)).any (·.1) || (backToKw pos (keywordEach kws X.env)).any (·.1.isNone)) = false := by rfl) :
    PE X (.Call (.Name x p) (e :: es) kws pos) (tMakeK C n ks.length sp (fun vs zs => vs ++ zs) E t tk) := by
  obtain ⟨f, fd, hm, hM, hb, F⟩ := M.ex
  exact pe_makeK hM F hr hg hm hb hx ha hkw hall hks hdb he hpl
end
end Pd
namespace Wl
open PySem PySem.Spec PyProof.Rows L2 Evl Pd
section
variable {K : PySem.W.Frag} {XX : XP}
@[simp] def wMakeKW (C : Addr) (n m : Nat) (D : List PyData → Lh → Wv → Prop) (a b : WA) : WE := fun ρ h P => a ρ h fun ds h1 => b ρ h1 fun es h2 => ds.length = n ∧ es.length = m ∧ ∀ x, h2 x = none → D (rf x :: (ds ++ es)) (up h2 x (.ins C [])) (fun d h3 => d = .none ∧ P (rf x) h3)
instance (priority := high) {D : List PyData → Lh → Wv → Prop} {C : Addr} {n m : Nat} {E : XK} {ta tb : TA} {a b : WA} [A : RA K XX ta a] [B : RA K XX tb b] : RE K XX (tMakeK C n m (SpX K fun ds h P _ => D ds h P) (fun vs zs => vs ++ zs) E ta tb) (wMakeKW C n m D a b) := ⟨fun {N σ H ρ h P Q} S E0 p k =>
  A.run S E0 p fun vs ds H1 h1 t1 S1 r1 p1 => B.run S1 (E0.tr t1) p1 fun zs es H2 h2 t2 S2 r2 ⟨l1, l2, p2⟩ => ⟨by rw [r1.length]; exact l1, by rw [r2.length]; exact l2, fun x dx hx hdx ne => by
    obtain ⟨t3, S3⟩ := make_sim (C := C) S2.toSim hx hdx ne
    refine ⟨N, _, rf x :: (ds ++ es), _, _, Sx.noX S3, ?_, p2 x (S2.hn hx), fun v d H4 h4 t4 S4 r4 ⟨e, p4⟩ => ?_⟩
    · exact .cons (.rf x) ((r1.tr (t2.trans t3)).append (r2.tr t3))
    · subst e
      exact ⟨r4.n, (k.tr (((t1.trans t2).trans t3).trans t4)).at (S2.to (t3.trans t4) S4.toSim) (.rf x) p4⟩⟩⟩
end
end Wl
set_option Elab.async false
set_option linter.all false
set_option maxRecDepth 100000
set_option maxHeartbeats 2000000
/-! Wo: a list against []. -/
namespace Pd
open PySem PySem.Spec PyProof.Rows L2 Evl
def rNeL0 (K : PySem.W.Frag) : R2 := fun x y H Q => ∃ a b xs, x = .ref a ∧ y = .ref b ∧ SqL K H a xs ∧ SqL K H b [] ∧ Q (.bl (!xs.isEmpty)) H
def rEqL0 (K : PySem.W.Frag) : R2 := fun x y H Q => ∃ a b xs, x = .ref a ∧ y = .ref b ∧ SqL K H a xs ∧ SqL K H b [] ∧ Q (.bl xs.isEmpty) H
theorem op_neL0 {X : Cx} (hu : X.A.units + 64 < cLine) : OpR X (compareOp .NotEq) (rNeL0 X.K) := by
  intro pins s σ H x y v u Q I rx ry h
  obtain ⟨a, b, xs, rfl, rfl, ha, hb, q⟩ := h
  cases rx
  cases ry
  obtain ⟨its, rv, ⟨o, n, ho, hc, _, hd⟩, _⟩ := I.list ha
  obtain ⟨its2, rv2, ⟨o2, n2, ho2, hc2, _, hd2⟩, _⟩ := I.list hb
  have l1 : xs.length = its.toArray.size := by simpa using rv.length
  have l2 : its2.toArray.size = 0 := by simpa using rv2.length.symm
  have hl : s.heap.IsList a its.toArray := ⟨o, ho, hc, n, hd⟩
  have hl2 : s.heap.IsList b its2.toArray := ⟨o2, ho2, hc2, n2, hd2⟩
  have q' : ∃ v H', Inv X pins σ H' s ∧ RelV v (.bool (!xs.isEmpty)) ∧ Q v H' := ⟨.bl _, H, I, rfl, q⟩
  have s2 := l2
  by_cases hz : its.toArray.size = its2.toArray.size
  · have he : xs.isEmpty = true := by
      cases xs with
      | nil => rfl
      | cons x xs => rw [l2] at hz; rw [← l1] at hz; simp at hz
    have hr : (!(List.range its.toArray.size).all (fun _ => true)) = (!xs.isEmpty) := by rw [he]; simp
    exact SeqAt.RcNeAt.lists (e := fun _ => true) hl hl2 hz (by omega) (fun j h1 h2 => by omega) _ _ _ _ (by rw [hr]; exact q')
  · have he : xs.isEmpty = false := by
      cases xs with
      | nil => rw [l2] at hz; rw [← l1] at hz; exact absurd rfl hz
      | cons x xs => rfl
    have hr : true = (!xs.isEmpty) := by rw [he]; rfl
    exact SeqAt.RcNeAt.lists_lengths hl hl2 (by simpa using hz) (by omega) _ _ _ _ (by rw [hr]; exact q')
theorem op_eqL0 {X : Cx} (hu : X.A.units + 64 < cLine) : OpR X (compareOp .Eq) (rEqL0 X.K) := by
  intro pins s σ H x y v u Q I rx ry h
  obtain ⟨a, b, xs, rfl, rfl, ha, hb, q⟩ := h
  cases rx
  cases ry
  obtain ⟨its, rv, ⟨o, n, ho, hc, _, hd⟩, _⟩ := I.list ha
  obtain ⟨its2, rv2, ⟨o2, n2, ho2, hc2, _, hd2⟩, _⟩ := I.list hb
  have l1 : xs.length = its.toArray.size := by simpa using rv.length
  have l2 : its2.toArray.size = 0 := by simpa using rv2.length.symm
  have hl : s.heap.IsList a its.toArray := ⟨o, ho, hc, n, hd⟩
  have hl2 : s.heap.IsList b its2.toArray := ⟨o2, ho2, hc2, n2, hd2⟩
  have q' : ∃ v H', Inv X pins σ H' s ∧ RelV v (.bool (xs.isEmpty)) ∧ Q v H' := ⟨.bl _, H, I, rfl, q⟩
  have s2 := l2
  by_cases hz : its.toArray.size = its2.toArray.size
  · have he : xs.isEmpty = true := by
      cases xs with
      | nil => rfl
      | cons x xs => rw [l2] at hz; rw [← l1] at hz; simp at hz
    have hr : ((List.range its.toArray.size).all (fun _ => true)) = (xs.isEmpty) := by rw [he]; simp
    exact SeqAt.RcAt.lists (e := fun _ => true) hl hl2 hz (by omega) (fun j h1 h2 => by omega) _ _ _ _ (by rw [hr]; exact q')
  · have he : xs.isEmpty = false := by
      cases xs with
      | nil => rw [l2] at hz; rw [← l1] at hz; exact absurd rfl hz
      | cons x xs => rfl
    have hr : false = (xs.isEmpty) := by rw [he]
    exact SeqAt.RcAt.lists_lengths hl hl2 (by simpa using hz) (by omega) _ _ _ _ (by rw [hr]; exact q')
theorem k_neL0 {X : Cx} {K : PySem.W.Frag} (hK : X.K = K) (hu : X.A.units + 64 < cLine) : OpR X (compareOp .NotEq) (rNeL0 K) := by subst hK; exact op_neL0 hu
theorem k_eqL0 {X : Cx} {K : PySem.W.Frag} (hK : X.K = K) (hu : X.A.units + 64 < cLine) : OpR X (compareOp .Eq) (rEqL0 K) := by subst hK; exact op_eqL0 hu
end Pd
namespace Wl
open PySem PySem.Spec PyProof.Rows L2 Evl Pd
section
variable {K : PySem.W.Frag} {XX : XP}
@[simp] def fNeL0 (d e : PyData) (h : Lh) (P : Wv) : Prop := e = .list [] ∧ ∃ ds, lv h d = some ds ∧ P (.bool (!ds.isEmpty)) h
@[simp] def fEqL0 (d e : PyData) (h : Lh) (P : Wv) : Prop := e = .list [] ∧ ∃ ds, lv h d = some ds ∧ P (.bool ds.isEmpty) h
theorem isEmpty_rls {N : Addr → Prop} {H : Hp} {h : Lh} {xs : List V} {ds : List PyData} (r : Rls K N H h xs ds) : xs.isEmpty = ds.isEmpty := by cases r <;> rfl
instance : R2W K (rNeL0 K) fNeL0 := ⟨fun {XX N H h x y d e P Q} S a c ⟨e1, ds, e2, p⟩ k => by
  subst e1
  obtain ⟨p1, xs, rfl, s1, r1⟩ := a.lv S e2
  obtain ⟨p2, ys, rfl, s2, r2⟩ := c.l
  cases r2
  exact ⟨p1, p2, xs, rfl, rfl, s1, s2.sq, by rw [isEmpty_rls r1]; exact k.at S (.bl _) p⟩⟩
instance : R2W K (rEqL0 K) fEqL0 := ⟨fun {XX N H h x y d e P Q} S a c ⟨e1, ds, e2, p⟩ k => by
  subst e1
  obtain ⟨p1, xs, rfl, s1, r1⟩ := a.lv S e2
  obtain ⟨p2, ys, rfl, s2, r2⟩ := c.l
  cases r2
  exact ⟨p1, p2, xs, rfl, rfl, s1, s2.sq, by rw [isEmpty_rls r1]; exact k.at S (.bl _) p⟩⟩
end
end Wl
set_option Elab.async false
set_option linter.all false
set_option maxRecDepth 100000
set_option maxHeartbeats 2000000
/-! Wp: more. -/
namespace Pd
open PySem PySem.Spec PyProof.Rows L2 Evl
theorem k_sum {X : Cx} {K : PySem.W.Frag} (hK : X.K = K) (hc : X.calm = true) : CallR X (.builtin "sum") (rSum K) := by subst hK; exact cr_sum hc
theorem k_match {X : Cx} {K : PySem.W.Frag} (hK : X.K = K) {e : Expr} {te : TE} {cases : List MatchCase} {tm : TMc} {pos : Pos} (he : PE X e te) (hm : PMc X cases tm) : PS X (.Match e cases pos) (tMatch K te tm) := by subst hK; exact ps_match he hm
end Pd
namespace Wl
open PySem PySem.Spec PyProof.Rows L2 Evl Pd
theorem putD_new {kvs : List (Key × PyData)} {k : Key} {v : PyData} (h : k ∉ kvs.map (·.1)) : putD kvs k v = kvs ++ [(k, v)] := by
  induction kvs with
  | nil => rfl
  | cons p r ih =>
    rw [List.map_cons, List.mem_cons, not_or] at h
    unfold putD
    rw [if_neg (fun z => h.1 z.symm), ih h.2]; rfl
theorem lcL_id {keep : Lh → Prop} {g : WG} {e : WE} {ρ : Ev'} {P : List PyData → Lh → Prop} {h : Lh} {l : List PyData} (f : PyData → PyData) (hk : keep h) (hz : l.length ≤ 100000)
    (hs : ∀ a ∈ l, ∀ F : PyData → Lh → Prop, F (f a) h → g a ρ h fun ρ1 h1 => e ρ1 h1 F) (hd : P (l.map f) h) : lcL keep g wYes e ρ P l [] h := by
  have := lcL_map (emb := fun x => x) f hk hz hs hd
  rwa [List.map_id'] at this
theorem dcL_map {α : Type} {keep : Lh → Prop} {g : WG} {ek ev : WE} {ρ : Ev'} {P : List (Key × PyData) → Lh → Prop} {h : Lh} {l : List α} {emb : α → PyData} (kf : α → Key) (vf : α → PyData) (hk : keep h) (hz : l.length ≤ 100000) (nd : (l.map kf).Nodup)
    (hs : ∀ a ∈ l, ∀ F : PyData → PyData → Lh → Prop, F (keyP (kf a)) (vf a) h → g (emb a) ρ h fun ρ1 h1 => ek ρ1 h1 fun y h3 => ev ρ1 h3 fun x h4 => F y x h4)
    (hd : P (l.map fun a => (kf a, vf a)) h) : dcL keep g wYes ek ev ρ P (l.map emb) [] h := by
  suffices H : ∀ (done rest : List α), l = done ++ rest → dcL keep g wYes ek ev ρ P (rest.map emb) (done.map fun a => (kf a, vf a)) h from H [] l rfl
  intro done rest
  induction rest generalizing done with
  | nil =>
    intro e
    rw [List.append_nil] at e
    subst e
    exact ⟨hk, hd⟩
  | cons a rest ih =>
    intro e
    refine ⟨hk, ?_, ?_⟩
    · rw [e, List.length_append, List.length_cons] at hz
      rw [List.length_map]; omega
    · have := hs a (by rw [e]; simp) (fun y x h4 => ∃ k, keyD y = some k ∧ dcL keep g wYes ek ev ρ P (rest.map emb) (putD (done.map fun a => (kf a, vf a)) k x) h4) ⟨kf a, by cases kf a <;> rfl, by
        rw [putD_new (fun z => ?_)]
        · have := ih (done ++ [a]) (by rw [e]; simp)
          rw [List.map_append] at this
          exact this
        · rw [e, List.map_append, List.map_cons, List.nodup_append] at nd
          rw [List.map_map] at z
          exact nd.2.2 _ z _ (List.mem_cons_self ..) rfl⟩
      simp only [wYes, wCond_t]
      exact this
theorem dcL_run {keep : Lh → Prop} {g : WG} {t : WT} {ek ev : WE} {ρ : Ev'} {P : List (Key × PyData) → Lh → Prop} (I : List PyData → List (Key × PyData) → Lh → Prop)
    (hs : ∀ d ds acc h, I (d :: ds) acc h → keep h ∧ acc.length < 100000 ∧ ∀ F : List (Key × PyData) → Lh → Prop, (∀ acc h, I ds acc h → F acc h) → g d ρ h fun ρ1 h1 => t ρ1 h1 fun b h2 => wCond b (ek ρ1 h2 fun y h3 => ev ρ1 h3 fun x h4 => ∃ k, keyD y = some k ∧ F (putD acc k x) h4) (F acc h2))
    (hd : ∀ acc h, I [] acc h → keep h ∧ P acc h) : ∀ {ds acc h}, I ds acc h → dcL keep g t ek ev ρ P ds acc h
  | [], _, _, i => hd _ _ i
  | d :: ds, _, _, i => ⟨(hs _ _ _ _ i).1, (hs _ _ _ _ i).2.1, (hs _ _ _ _ i).2.2 _ fun _ _ j => dcL_run I hs hd j⟩
end Wl
set_option Elab.async false
set_option linter.all false
set_option maxRecDepth 100000
set_option maxHeartbeats 2000000
/-! Wq: t[::-1]. -/
namespace HT
open PySem PyProof.Rows
open PySem.SeqAt
open PySem.AutoSeq1 (wpAny_loadPart')
open PySem.MeetsSeq PySem.MeetsSeq2 PySem.MeetsSeq3 PySem.W
section
variable {prog : Program} {w : World} {A : Around} {E : Value → Shared → Prop} {s : Shared}
theorem sliceApplied_rev {sl : Addr} {vs : Value} {n : Nat} {Q : Int × Int × Nat → Shared → Prop} (hs : s.heap.IsSliceOf sl .none .none vs) (ps : IsPart vs (some (-1)))
    (h : Q ((n : Int) - 1, -1, n) s) : wpAny (model prog w) A (Builtin.Slice.sliceApplied (.ref sl) (pure (n : Int))) Q E s := by
  obtain ⟨os, hos, hcs, hds⟩ := id hs
  unfold Builtin.Slice.sliceApplied Builtin.Slice.sliceFields
  refine wpAny_bind (wpAny_bind (wpAny_field hos hds (x := .none) rfl (wpAny_bind (wpAny_field hos hds (x := .none) rfl (wpAny_bind (wpAny_field hos hds (x := vs) rfl (wpAny_pure ?_)))))))
  refine wpAny_bind (slicePart_ ps ?_)
  show wpAny _ _ (if ((-1 : Int) == 0) = true then _ else _) _ _ s
  rw [if_neg (by decide)]
  refine wpAny_bind (slicePart_ .none (wpAny_bind (slicePart_ .none (wpAny_bind (wpAny_pure ?_)))))
  have e : Builtin.Slice.slicePlaces ((n : Int) - 1) (-1) (-1) = n := by
    unfold Builtin.Slice.slicePlaces
    rw [if_neg (by decide), show (- -1 : Int) = 1 by decide, Int.ediv_one]
    split <;> omega
  show wpAny _ _ (pure ((n : Int) - 1, (-1 : Int), Builtin.Slice.slicePlaces ((n : Int) - 1) (-1) (-1))) _ _ s
  rw [e]
  exact wpAny_pure h
theorem fm_congr {α β : Type} {f g : α → Option β} : ∀ {l : List α}, (∀ a ∈ l, f a = g a) → l.filterMap f = l.filterMap g
  | [], _ => rfl
  | a :: l, h => by
    rw [List.filterMap_cons, List.filterMap_cons, h a (by simp), fm_congr fun b hb => h b (List.mem_cons_of_mem _ hb)]
theorem pick_rev (xs : Array Value) : ((List.range xs.size).filterMap fun (m : Nat) => xs[(((xs.size : Nat) : Int) - 1 + (m : Int) * (-1)).toNat]?).toArray = xs.toList.reverse.toArray := by
  have h := krv_pick xs
  unfold slicePick at h
  rw [krv_bounds] at h
  change ((sliceRange ((xs.size : Int) - 1) (-1) (-1)).filterMap (xs[·]?)).toArray = _ at h
  rw [krv_sliceRange, List.filterMap_map] at h
  rw [← h]
  congr 1
  refine fm_congr fun m hm => ?_
  have hm := List.mem_range.mp hm
  have e : (((xs.size : Nat) : Int) - 1 + (m : Int) * (-1)).toNat = xs.size - 1 - m := by omega
  rw [e]; rfl
theorem getItem_tuple_rev {t sl : Addr} {items : Array Value} {vs : Value} {Q : Value → Shared → Prop} (ht : IsTup s.heap t items) (hs : s.heap.IsSliceOf sl .none .none vs) (ps : IsPart vs (some (-1)))
    (h : Q (.ref s.heap.objs.size) { s with heap := s.heap.push { cls := .type "tuple", data := .seq items.toList.reverse.toArray } })
    (hsz : items.size ≤ sizeLine) : wpAny (model prog w) A (getItem (.ref t) (.ref sl)) Q E s := by
  have htake : sizeOk (.seq items.toList.reverse.toArray) := by
    show items.toList.reverse.toArray.size ≤ sizeLine
    simpa using hsz
  obtain ⟨os, hos, hcs, hds⟩ := id hs
  have hTs : s.TypeIs (.ref sl) "slice" := ⟨os, hos, hcs⟩
  unfold getItem
  try with_reducible refine wpAny_holding ?_
  first | refine wpAny_bind (wpAny_pure ?_) | skip
  refine wpAny_bind (wpAny_sequenceKey ht.typeIs (by decide) ?_)
  refine wpAny_bind (wpAny_callSpecial?_slot (name := Str.ofString "__getitem__") ht.typeIs PyProof.Rows.slot_tuple_getitem
    (wpAny_call_entry PyProof.Rows.slot_tuple_getitem ht.typeIs entry_tuple_getitem ?_ (args_tuple_getitem _ _)))
  show wpAny _ _ (Builtin.Tuple.tupleItemsOf (.ref t) >>= _) _ _ s
  refine wpAny_bind (tupleItemsOf_ ht ?_)
  refine wpAny_bind (wpAny_typeOf hTs ?_)
  rw [if_pos (by decide)]
  refine wpAny_bind (sliceApplied_rev hs ps ?_)
  have hno : ¬ (((((items.size : Nat) : Int) - 1 == 0) && ((-1 : Int) == 1) && (items.size == items.size)) = true) := by
    intro q
    rw [Bool.and_eq_true, Bool.and_eq_true] at q
    exact absurd (eq_of_beq q.1.2) (by decide)
  show wpAny _ _ (if (((((items.size : Nat) : Int) - 1 == 0) && ((-1 : Int) == 1) && (items.size == items.size)) = true) then _ else _) _ _ s
  rw [if_neg hno, pick_rev]
  first
    | exact wpAny_bind (m := Builtin.Tuple.tupleExact _) (wpAny_newObj_type (wpAny_pure ⟨_, rfl, wpAny_pure h⟩) htake)
    | exact wpAny_bind (m := Builtin.Tuple.tupleExact _) (wpAny_newObj_type (wpAny_bind (wpAny_pure (wpAny_pure ⟨_, rfl, wpAny_pure h⟩))) htake)
end
end HT
namespace Pd
open PySem PySem.Spec PyProof.Rows L2 Evl
def tRevT (K : PySem.W.Frag) (te : TE) : TE := fun σ H Q => te σ H fun x H1 => ∃ a xs, x = .ref a ∧ SqT K H1 a xs ∧ ∀ p, H1 p = none → Q (.ref p) (upd H1 p (.tup xs.reverse))
theorem pe_revT {X : Cx} {e : Expr} {te : TE} {k : Nat} {p1 p2 p3 pos : Pos} (he : PE X e te) : PE X (.Subscript e (.Slice none none (some (.UnaryOp .USub (.Constant (.int 1) k p1) p2)) p3) pos) (tRevT X.K te) := by
  refine ⟨fun pins s σ H Q I h => ?_⟩
  refine Subscript_ (thn (he.run pins s σ H _ I h) fun v s1 ⟨x, H1, I1, r1, q1⟩ => ?_)
  obtain ⟨a, xs, ex, hx, q⟩ := q1
  subst ex
  cases r1
  have hst : PO X (some (.UnaryOp .USub (.Constant (.int 1) k p1) p2)) (tPart (tUn (rU fun i => .int (-i)) (tC (.int 1)))) := po_some (pe_un un_neg pe_int)
  refine wpAny_Slice (thn (po_none.run pins s1 σ H1 (fun o H2 => o = none ∧ H2 = H1) I1 ⟨rfl, rfl⟩) fun vl s2 ⟨l, H2, I2, pl, el, e2⟩ => ?_)
  subst el e2
  refine thn (po_none.run pins s2 σ H2 (fun o H3 => o = none ∧ H3 = H2) I2 ⟨rfl, rfl⟩) fun vu s3 ⟨u, H3, I3, pu, eu, e3⟩ => ?_
  subst eu e3
  refine thn (hst.run pins s3 σ H3 (fun o H4 => o = some (-1) ∧ H4 = H3) I3 ⟨1, rfl, -1, rfl, rfl, rfl⟩) fun vs s4 ⟨o, H4, I4, ps, eo, e4⟩ => ?_
  subst eo e4
  have I5 : Inv X pins σ H4 { s4 with heap := s4.heap.push { cls := .type "slice", data := .fields #[vl, vu, vs] } } := I4.kept (t' := s4.toks) fun b ob q => Heap.get?_push_of_some _ q
  obtain ⟨its, r, ht, hz⟩ := I5.tuple hx
  have hlen := r.length
  cases pl
  cases pu
  show wpAny (model X.prog X.w) X.A (subscriptTail e (.Slice none none (some (.UnaryOp .USub (.Constant (.int 1) k p1) p2)) p3) (.ref a) (.ref s4.heap.objs.size)) (EP X pins σ Q) X.xe { s4 with heap := s4.heap.push { cls := .type "slice", data := .fields #[.none, .none, vs] } }
  refine tail_any (ops := [.ref a, .ref s4.heap.objs.size]) ht.typeIs (PyProof.Rows.slot_tuple_getitem.lookup) ?_ (by with_unfolding_all rfl)
  refine HT.getItem_tuple_rev ht (Heap.IsSliceOf.new _ .none .none vs) ps ?_ (by rw [List.size_toArray]; omega)
  refine ⟨.ref _, _, I5.laid (t' := s4.toks) (o := .tup xs.reverse) (fun b ob q => Heap.get?_push_of_some _ q) (Nat.le_refl _) ?_, rfl, q _ (I5.hok.fresh (Nat.le_refl _))⟩
  exact ⟨by rw [List.length_reverse]; exact hz, _, r.reverse, IsTup.new _ _⟩
theorem k_revT {X : Cx} {K : PySem.W.Frag} (hK : X.K = K) {e : Expr} {te : TE} {k : Nat} {p1 p2 p3 pos : Pos} (he : PE X e te) : PE X (.Subscript e (.Slice none none (some (.UnaryOp .USub (.Constant (.int 1) k p1) p2)) p3) pos) (tRevT K te) := by subst hK; exact pe_revT he
theorem k_revL {X : Cx} {K : PySem.W.Frag} (hK : X.K = K) {e : Expr} {te : TE} {k : Nat} {p1 p2 p3 pos : Pos} (he : PE X e te) : PE X (.Subscript e (.Slice none none (some (.UnaryOp .USub (.Constant (.int 1) k p1) p2)) p3) pos) (tRevL K te) := by subst hK; exact pe_revL he
end Pd
namespace Wl
open PySem PySem.Spec PyProof.Rows L2 Evl Pd
section
variable {K : PySem.W.Frag} {XX : XP}
theorem Rls.rev {N : Addr → Prop} {H : Hp} {h : Lh} : ∀ {ds : List PyData} {vs : List V}, Rls K N H h vs ds → Rls K N H h vs.reverse ds.reverse
  | [], _, r => by cases r; exact .nil
  | d :: ds, _, r => by
    cases r with
    | cons a b => rw [List.reverse_cons, List.reverse_cons]; exact (Rls.rev b).append (.cons a .nil)
@[simp] def wRevT (a : WE) : WE := fun ρ h P => a ρ h fun d h1 => ∃ ds, tv d = some ds ∧ P (.tuple ds.reverse) h1
@[simp] def wRevL (a : WE) : WA := fun ρ h P => a ρ h fun d h1 => ∃ ds, lv h1 d = some ds ∧ P ds.reverse h1
theorem tv_tup2 {d : PyData} {ds : List PyData} (e : tv d = some ds) : d = .tuple ds := by
  cases d <;> simp_all
instance {te : TE} {a : WE} [A : RE K XX te a] : RE K XX (tRevT K te) (wRevT a) := ⟨fun {N σ H ρ h P Q} S E p k => A.run S E p fun v d H1 h1 t1 S1 r1 ⟨ds, e, p1⟩ => by
  rw [tv_tup2 e] at r1
  obtain ⟨b, xs, rfl, q1, q2⟩ := r1.t
  exact ⟨b, xs, rfl, q1.sq, fun p hp => (k.tr t1).tup S1 hp q2.rev p1⟩⟩
instance {te : TE} {a : WE} [A : RE K XX te a] : RN K XX (tRevL K te) (wRevL a) := ⟨fun {N σ H ρ h P Q} S E p k => A.run S E p fun v d H1 h1 t1 S1 r1 ⟨ds, e, p1⟩ => by
  obtain ⟨b, xs, rfl, q1, q2⟩ := r1.lv S1 e
  exact ⟨b, xs, rfl, q1, fun p hp => (k.tr t1).new S1 hp q2.rev p1⟩⟩
@[simp] def wIEnumT (a : WA) : WI := fun ρ h P => a ρ h fun es h1 => ∃ d ds, es = [d] ∧ tv d = some ds ∧ P (Pd.numbered 0 ds) (fun _ => True) h1
instance {ta : TA} {a : WA} [A : RA K XX ta a] : RI K XX (iEnumT K ta) (wIEnumT a) := ⟨fun {N σ H ρ h P R} S E p k => A.run S E p fun vs es H1 h1 t1 S1 r1 ⟨d, ds, e0, e, p1⟩ => by
  subst e0
  obtain ⟨v, rfl, rv⟩ := r1.one
  obtain ⟨q, xs, rfl, t, rs⟩ := rv.tup' e
  refine ⟨q, xs, rfl, t.sq, k _ H1 h1 (Pd.numbered 0 ds) _ (fun H => SqT K H q xs) (YPair (fun i => some (.int (i : Nat))) (fun i => xs[i]?)) t1 S1 p1 (by rw [Pd.numbered_length, ← rs.length]; exact walk_enumT) (fun N' H3 h3 _ t3 _ _ => t.tr (N' := N) t3) fun N' i H3 h3 x H4 hN t3 S3 _ yy => ?_⟩
  obtain ⟨T, x, y, rfl, hT, rfl, hx, hy⟩ := yy
  cases hx
  obtain ⟨d', hd, r⟩ := rs.get hy
  have := Pd.numbered_get ds 0 i d' hd
  rw [Nat.zero_add] at this
  exact ⟨_, this, Tr.new hT, Ex.new hT, S3.new hT, .tup (.inl ⟨upd_same, S3.hn hT, S3.nn hT⟩) (.cons (.int _) (.cons (((r.hid hN).tr t3).tr (Tr.new hT)) .nil))⟩⟩
end
/-- one statement, the rest unseen -/
theorem wSeq_step {a b : WS} {E : WEnds} {ρ : Ev'} {h : Lh} (H : ∀ B : WS, B = b → wSeq a B E ρ h) : wSeq a b E ρ h := H b rfl
theorem wIfS_step {t : WT} {a b : WS} {E : WEnds} {ρ : Ev'} {h : Lh} (H : ∀ A B : WS, A = a → B = b → wIfS t A B E ρ h) : wIfS t a b E ρ h := H a b rfl rfl
theorem lcL_filter {α : Type} {keep : Lh → Prop} {g : WG} {tt : WT} {e : WE} {ρ : Ev'} {P : List PyData → Lh → Prop} {h : Lh} {l : List α} {emb : α → PyData} (q : α → Bool) (f : α → PyData) (hk : keep h) (hz : l.length ≤ 100000)
    (hs : ∀ a ∈ l, ∀ (F : PyData → Lh → Prop) (F0 : Lh → Prop), (q a = true → F (f a) h) → (q a = false → F0 h) → g (emb a) ρ h fun ρ1 h1 => tt ρ1 h1 fun b h2 => wCond b (e ρ1 h2 F) (F0 h2)) (hd : P ((l.filter q).map f) h) : lcL keep g tt e ρ P (l.map emb) [] h := by
  have key : ∀ (m k : List α), k ++ m = l → lcL keep g tt e ρ P (m.map emb) ((k.filter q).map f) h := by
    intro m
    induction m with
    | nil => intro k z; rw [List.append_nil] at z; subst z; exact ⟨hk, hd⟩
    | cons a m ih =>
      intro k z
      have hl : (k.filter q).length ≤ k.length := List.length_filter_le _ _
      refine ⟨hk, by rw [List.length_map]; have := congrArg List.length z; simp at this; omega, ?_⟩
      have ih' := ih (k ++ [a]) (by rw [List.append_assoc]; exact z)
      rw [List.filter_append, List.map_append] at ih'
      refine hs a (by rw [← z]; simp) (fun x h3 => lcL keep g tt e ρ P (m.map emb) ((k.filter q).map f ++ [x]) h3) (fun h3 => lcL keep g tt e ρ P (m.map emb) ((k.filter q).map f) h3) (fun c => ?_) (fun c => ?_)
      · simpa [List.filter, c] using ih'
      · simpa [List.filter, c] using ih'
  exact key l [] rfl
end Wl
set_option Elab.async false
set_option linter.all false
set_option maxRecDepth 100000
set_option maxHeartbeats 1000000
/-! things at places of their own: frames over the logical heap -/
namespace Wl
open PySem PySem.Spec PyProof.Rows L2 Evl Pd
/-- all that was stays -/
abbrev Lx (h h' : Lh) : Prop := ∀ x o, h x = some o → h' x = some o
theorem Lx.refl (h : Lh) : Lx h h := fun _ _ e => e
theorem Lx.trans {h h1 h2 : Lh} (a : Lx h h1) (b : Lx h1 h2) : Lx h h2 := fun x o e => b x o (a x o e)
theorem Lx.new {h : Lh} {p : Addr} {o : LO} (n : h p = none) : Lx h (up h p o) := up_ex n
theorem Lx.nn {h h' : Lh} (a : Lx h h') {p : Addr} (e : h' p = Option.none) : h p = Option.none := by
  cases q : h p with
  | none => rfl
  | some o => rw [a p o q] at e; cases e
theorem Lx.ne {h h' : Lh} (a : Lx h h') {p x : Addr} {o : LO} (e : h' p = none) (q : h x = some o) : x ≠ p := fun z => by subst z; rw [a x o q] at e; cases e
theorem Lx.put {h h' : Lh} (a : Lx h h') {p : Addr} {u : LO} (n : h p = none) : Lx h (up h' p u) := fun x o e => by
  rw [up_ne (fun z => by subst z; rw [n] at e; cases e)]; exact a x o e
/-- all but F stays -/
abbrev Kp (F : List Addr) (h h' : Lh) : Prop := ∀ x o, x ∉ F → h x = some o → h' x = some o
theorem Kp.put {F : List Addr} {h : Lh} {q : Addr} {u : LO} (m : q ∈ F) : Kp F h (up h q u) := fun x o n e => by
  rw [up_ne (fun z => n (by rw [z]; exact m))]; exact e
theorem Kp.trans {F : List Addr} {h h1 h2 : Lh} (a : Kp F h h1) (b : Kp F h1 h2) : Kp F h h2 := fun x o n e => b x o n (a x o n e)
theorem Kp.lx {F : List Addr} {h h1 h2 : Lh} (a : Kp F h h1) (b : Lx h1 h2) : Kp F h h2 := fun x o n e => b x o (a x o n e)
theorem Lx.kp {F : List Addr} {h h1 : Lh} (a : Lx h h1) : Kp F h h1 := fun x o _ e => a x o e
theorem Kp.put2 {F : List Addr} {h0 h : Lh} (k : Kp F h0 h) {q : Addr} {u : LO} (m : q ∈ F) : Kp F h0 (up h q u) := fun x o n e => by
  rw [up_ne (fun z => n (by rw [z]; exact m))]; exact k x o n e
theorem Kp.new2 {F : List Addr} {h0 h : Lh} (k : Kp F h0 h) {q : Addr} {u : LO} (m : h0 q = none) : Kp F h0 (up h q u) := fun x o n e => by
  rw [up_ne (fun z => by subst z; rw [m] at e; cases e)]; exact k x o n e
theorem Kp.refl (F : List Addr) (h : Lh) : Kp F h h := fun _ _ _ e => e
/-- from one set of places to the next -/
structure Gp (F : List Addr) (h : Lh) (F' : List Addr) (h' : Lh) : Prop where
  fr : Kp F h h'
  nw : ∀ x ∈ F', x ∈ F ∨ h x = none
theorem Gp.refl (F : List Addr) (h : Lh) : Gp F h F h := ⟨fun _ _ _ e => e, fun _ m => .inl m⟩
theorem Gp.trans {F F1 F2 : List Addr} {h h1 h2 : Lh} (a : Gp F h F1 h1) (b : Gp F1 h1 F2 h2) : Gp F h F2 h2 := by
  have fr : Kp F h h2 := fun x o n e => by
    refine b.fr x o (fun m => ?_) (a.fr x o n e)
    rcases a.nw x m with q | q
    · exact n q
    · rw [q] at e; cases e
  refine ⟨fr, fun x m => ?_⟩
  rcases b.nw x m with q | q
  · exact a.nw x q
  · by_cases c : x ∈ F
    · exact .inl c
    · refine .inr ?_
      cases e : h x with
      | none => rfl
      | some o => rw [a.fr x o c e] at q; cases q
theorem nd_at {α : Type} {l : List α} (h : l.Nodup) {i j : Nat} (hi : i < l.length) (hj : j < l.length) (e : l[i] = l[j]) : i = j := by
  have q := List.pairwise_iff_getElem.mp h
  rcases Nat.lt_trichotomy i j with c | c | c
  · exact absurd e (q i j hi hj c)
  · exact c
  · exact absurd e.symm (q j i hj hi c)
theorem nd_map {α β : Type} {f : α → β} : ∀ {l : List α}, (l.map f).Nodup → ∀ k ∈ l, ∀ m ∈ l, f k = f m → k = m
  | [], _, k, hk, _, _, _ => by cases hk
  | a :: l, h, k, hk, m, hm, e => by
    rw [List.map_cons, List.nodup_cons] at h
    rcases List.mem_cons.mp hk with e1 | hk1
    · rcases List.mem_cons.mp hm with e2 | hm1
      · rw [e1, e2]
      · exact absurd (List.mem_map.mpr ⟨m, hm1, by rw [← e, e1]⟩) h.1
    · rcases List.mem_cons.mp hm with e2 | hm1
      · exact absurd (List.mem_map.mpr ⟨k, hk1, by rw [e, e2]⟩) h.1
      · exact nd_map h.2 k hk1 m hm1 e
theorem _root_.Ne.nd2 {a b : Addr} (h : a ≠ b) : [a, b].Nodup := by simpa using h
/-! things that stand in the heap, each at places of its own -/
structure Res where
  F : List Addr
  R : Lh → Prop
  keep : ∀ h h', R h → (∀ x ∈ F, ∀ o, h x = some o → h' x = some o) → R h'
  has : ∀ h, R h → ∀ x ∈ F, ∃ o, h x = some o
def Fs (rs : List Res) : List Addr := rs.flatMap Res.F
structure At (rs : List Res) (h : Lh) : Prop where
  nd : (Fs rs).Nodup
  al : ∀ r ∈ rs, r.R h
theorem mem_Fs {rs : List Res} {x : Addr} : x ∈ Fs rs ↔ ∃ r ∈ rs, x ∈ r.F := by unfold Fs; exact List.mem_flatMap
theorem Fs_cons {r : Res} {rs : List Res} : Fs (r :: rs) = r.F ++ Fs rs := rfl
theorem Fs_append {a b : List Res} : Fs (a ++ b) = Fs a ++ Fs b := by unfold Fs; exact List.flatMap_append
theorem At.has {rs : List Res} {h : Lh} (A : At rs h) : ∀ x ∈ Fs rs, ∃ o, h x = some o := fun x hx => by
  obtain ⟨r, hr, hx⟩ := mem_Fs.mp hx
  exact r.has h (A.al r hr) x hx
theorem At.keep {rs : List Res} {h h' : Lh} (A : At rs h) (f : ∀ x ∈ Fs rs, ∀ o, h x = some o → h' x = some o) : At rs h' := ⟨A.nd, fun r hr => r.keep h h' (A.al r hr) fun x hx => f x (mem_Fs.mpr ⟨r, hr, hx⟩)⟩
theorem At.lx {rs : List Res} {h h' : Lh} (A : At rs h) (f : Lx h h') : At rs h' := A.keep fun x _ => f x
/-- several things as one -/
def grR (rs : List Res) : Res := ⟨Fs rs, At rs, fun h h' A f => A.keep f, fun h A => A.has⟩
def ceR (a : Addr) (o : LO) : Res := ⟨[a], fun h => h a = some o, fun h h' e f => f a (by simp) o e, fun h e x hx => ⟨o, by rw [List.mem_singleton.mp hx]; exact e⟩⟩
/-- two places -/
def c2R (a : Addr) (o : LO) (b : Addr) (u : LO) : Res := ⟨[a, b], fun h => h a = some o ∧ h b = some u, fun h h' e f => ⟨f a (by simp) o e.1, f b (by simp) u e.2⟩, fun h e x hx => by
    simp only [List.mem_cons, List.not_mem_nil, or_false] at hx
    rcases hx with rfl | rfl
    · exact ⟨o, e.1⟩
    · exact ⟨u, e.2⟩⟩
def tpR (t c : Addr) : Res := ⟨[t, c], TapeOk t c, fun h h' T f => by
    refine ⟨T.ne, ?_, ?_⟩
    · obtain ⟨s, e, q⟩ := T.tp
      exact ⟨s, f t (by simp) _ e, q⟩
    · obtain ⟨s, e, q⟩ := T.ce
      exact ⟨s, f c (by simp) _ e, q⟩, fun h T x hx => by
    simp only [List.mem_cons, List.not_mem_nil, or_false] at hx
    rcases hx with rfl | rfl
    · obtain ⟨s, e, q⟩ := T.tp; exact ⟨_, e⟩
    · obtain ⟨s, e, q⟩ := T.ce; exact ⟨_, e⟩⟩
theorem tape_gp {t c : Addr} {h h' : Lh} (g : TapeGo t c h h') : Gp [t, c] h [t, c] h' := ⟨fun x o n e => g.fr x o (fun z => n (by simp [z])) (fun z => n (by simp [z])) e, fun x m => .inl m⟩
/-- one thing changes -/
theorem At.mid {a b : List Res} {r r' : Res} {h h' : Lh} (A : At (a ++ r :: b) h) (g : Gp r.F h r'.F h') (hr : r'.R h') (nd : r'.F.Nodup) : At (a ++ r' :: b) h' ∧ Gp (Fs (a ++ r :: b)) h (Fs (a ++ r' :: b)) h' := by
  have nd0 := A.nd
  rw [Fs_append, Fs_cons, List.nodup_append, List.nodup_append] at nd0
  obtain ⟨n1, ⟨n2, n3, d1⟩, d2⟩ := nd0
  have out : ∀ x, (x ∈ Fs a ∨ x ∈ Fs b) → ∃ o, h x = some o ∧ x ∉ r.F ∧ x ∉ r'.F := fun x hx => by
    have hm : x ∈ Fs (a ++ r :: b) := by
      rw [Fs_append, Fs_cons]
      rcases hx with hx | hx
      · exact List.mem_append_left _ hx
      · exact List.mem_append_right _ (List.mem_append_right _ hx)
    obtain ⟨o, e⟩ := A.has x hm
    have c : x ∉ r.F := fun z => by
      rcases hx with hx | hx
      · exact d2 x hx x (List.mem_append_left _ z) rfl
      · exact d1 x z x hx rfl
    refine ⟨o, e, c, fun z => ?_⟩
    rcases g.nw x z with q | q
    · exact c q
    · rw [q] at e; cases e
  refine ⟨⟨?_, fun q hq => ?_⟩, ?_, fun x hx => ?_⟩
  · rw [Fs_append, Fs_cons, List.nodup_append, List.nodup_append]
    refine ⟨n1, ⟨nd, n3, fun x hx y hy z => ?_⟩, fun x hx y hy z => ?_⟩
    · subst z
      obtain ⟨_, _, _, q⟩ := out x (.inr hy)
      exact q hx
    · subst z
      rcases List.mem_append.mp hy with hy | hy
      · obtain ⟨_, _, _, q⟩ := out x (.inl hx)
        exact q hy
      · exact d2 x hx x (List.mem_append_right _ hy) rfl
  · have kp : ∀ (q : Res), q ∈ a ∨ q ∈ b → q.R h' := fun q hq => by
      refine q.keep h h' (A.al q (by rcases hq with hq | hq <;> simp [hq])) fun x hx o e => ?_
      obtain ⟨_, _, c, _⟩ := out x (hq.imp (fun hq => mem_Fs.mpr ⟨q, hq, hx⟩) fun hq => mem_Fs.mpr ⟨q, hq, hx⟩)
      exact g.fr x o c e
    rcases List.mem_append.mp hq with hq | hq
    · exact kp q (.inl hq)
    · rcases List.mem_cons.mp hq with rfl | hq
      · exact hr
      · exact kp q (.inr hq)
  · intro x o hx e
    refine g.fr x o (fun z => hx ?_) e
    rw [Fs_append, Fs_cons]
    exact List.mem_append_right _ (List.mem_append_left _ z)
  · rw [Fs_append, Fs_cons] at hx ⊢
    rcases List.mem_append.mp hx with hx | hx
    · exact .inl (List.mem_append_left _ hx)
    · rcases List.mem_append.mp hx with hx | hx
      · rcases g.nw x hx with q | q
        · exact .inl (List.mem_append_right _ (List.mem_append_left _ q))
        · exact .inr q
      · exact .inl (List.mem_append_right _ (List.mem_append_right _ hx))
/-- .. at a place of the list -/
theorem At.set {rs : List Res} {i : Nat} {r r' : Res} {h h' : Lh} (A : At rs h) (hi : rs[i]? = some r) (g : Gp r.F h r'.F h') (hr : r'.R h') (nd : r'.F.Nodup) : At (rs.set i r') h' ∧ Gp (Fs rs) h (Fs (rs.set i r')) h' := by
  obtain ⟨hl, e⟩ := List.getElem?_eq_some_iff.mp hi
  have e1 : rs = rs.take i ++ r :: rs.drop (i + 1) := by rw [← e, ← List.drop_eq_getElem_cons hl, List.take_append_drop]
  have e2 : rs.set i r' = rs.take i ++ r' :: rs.drop (i + 1) := by
    rw [List.set_eq_take_append_cons_drop, if_pos hl]
  rw [e2]
  rw [e1] at A
  have := A.mid g hr nd
  rw [← e1] at this
  exact this
theorem At.get {rs : List Res} {i : Nat} {r : Res} {h : Lh} (A : At rs h) (hi : rs[i]? = some r) : r.R h := A.al r (List.mem_of_getElem? hi)
theorem At.ndAt {rs : List Res} {i : Nat} {r : Res} {h : Lh} (A : At rs h) (hi : rs[i]? = some r) : r.F.Nodup := by
  obtain ⟨hl, e⟩ := List.getElem?_eq_some_iff.mp hi
  have e1 : rs = rs.take i ++ r :: rs.drop (i + 1) := by rw [← e, ← List.drop_eq_getElem_cons hl, List.take_append_drop]
  have := A.nd
  rw [e1, Fs_append, Fs_cons, List.nodup_append, List.nodup_append] at this
  exact this.2.1.1
/-- one thing more -/
theorem At.add {rs : List Res} {r : Res} {h h' : Lh} (A : At rs h) (g : Gp [] h r.F h') (hr : r.R h') (nd : r.F.Nodup) : At (rs ++ [r]) h' ∧ Gp (Fs rs) h (Fs (rs ++ [r])) h' := by
  have lx : Lx h h' := fun x o e => g.fr x o List.not_mem_nil e
  have nw : ∀ x ∈ r.F, h x = none := fun x hx => by
    rcases g.nw x hx with q | q
    · cases q
    · exact q
  have e : Fs (rs ++ [r]) = Fs rs ++ r.F := by rw [Fs_append, Fs_cons]; simp [Fs]
  refine ⟨⟨?_, fun q hq => ?_⟩, fun x o _ => lx x o, fun x hx => ?_⟩
  · rw [e, List.nodup_append]
    refine ⟨A.nd, nd, fun x hx y hy z => ?_⟩
    subst z
    obtain ⟨o, e⟩ := A.has x hx
    rw [nw x hy] at e; cases e
  · rcases List.mem_append.mp hq with hq | hq
    · exact (A.lx lx).al q hq
    · rw [List.mem_singleton.mp hq]; exact hr
  · rw [e] at hx
    rcases List.mem_append.mp hx with hx | hx
    · exact .inl hx
    · exact .inr (nw x hx)
theorem At.nil {h : Lh} : At [] h := ⟨List.nodup_nil, fun r hr => by cases hr⟩
/-- some things alone -/
theorem Fs_sub {rs qs : List Res} (s : qs.Sublist rs) : (Fs qs).Sublist (Fs rs) := by
  induction s with
  | slnil => exact List.Sublist.refl _
  | cons a _ ih => rw [Fs_cons]; exact ih.trans (List.sublist_append_right _ _)
  | cons_cons a _ ih => rw [Fs_cons, Fs_cons]; exact (List.Sublist.refl _).append ih
theorem At.sub {rs qs : List Res} {h : Lh} (A : At rs h) (s : qs.Sublist rs) : At qs h := ⟨List.Nodup.sublist (Fs_sub s) A.nd, fun r hr => A.al r (s.subset hr)⟩
theorem At.perm {rs qs : List Res} {h : Lh} (A : At rs h) (s : rs.Perm qs) : At qs h := ⟨(List.Perm.nodup_iff (List.Perm.flatMap_right _ s)).mp A.nd, fun r hr => A.al r (s.mem_iff.mpr hr)⟩
/-- from rs0 in h0 to rs in h -/
structure Tk (F0 : List Addr) (h0 : Lh) (rs : List Res) (h : Lh) : Prop where
  at_ : At rs h
  gp : Gp F0 h0 (Fs rs) h
section
variable {F0 : List Addr} {h0 h h' : Lh} {rs qs : List Res} {i : Nat}
theorem Tk.start {rs : List Res} {h : Lh} (A : At rs h) : Tk (Fs rs) h rs h := ⟨A, Gp.refl _ _⟩
theorem Tk.one {x : Addr} {o : LO} (e : h x = some o) : Tk [x] h [ceR x o] h := ⟨⟨by simp [Fs, ceR], fun r hr => by cases List.mem_singleton.mp hr; exact e⟩, ⟨fun _ _ _ e => e, fun y hy => .inl (by simpa [Fs, ceR] using hy)⟩⟩
/-- several things, from now on one -/
theorem Tk.grp (T : Tk F0 h0 rs h) : Tk F0 h0 [grR rs] h := ⟨⟨by rw [Fs_cons]; simpa [Fs, grR] using T.at_.nd, fun r hr => by cases List.mem_singleton.mp hr; exact T.at_⟩, ⟨T.gp.fr, fun x hx => T.gp.nw x (by rw [Fs_cons] at hx; simpa [Fs, grR] using hx)⟩⟩
theorem Tk.then1 {F0 : List Addr} {h0 h h' : Lh} {r r' : Res} (T : Tk F0 h0 [r] h) (U : Tk r.F h [r'] h') : Tk F0 h0 [r'] h' := ⟨U.at_, T.gp.trans (F1 := Fs [r]) ⟨fun x o n e => U.gp.fr x o (fun z => n (by rw [Fs_cons]; exact List.mem_append_left _ z)) e, fun x m => (U.gp.nw x m).imp (fun z => by rw [Fs_cons]; exact List.mem_append_left _ z) id⟩⟩
theorem Tk.nil (h : Lh) : Tk [] h [] h := ⟨At.nil, Gp.refl _ _⟩
theorem Tk.set {r r' : Res} (T : Tk F0 h0 rs h) (i : Nat) (hi : rs[i]? = some r) (g : Gp r.F h r'.F h') (hr : r'.R h') (nd : r'.F.Nodup) : Tk F0 h0 (rs.set i r') h' := by
  obtain ⟨a, b⟩ := T.at_.set hi g hr nd
  exact ⟨a, T.gp.trans b⟩
theorem Tk.thenAt {r r' : Res} (T : Tk F0 h0 rs h) (i : Nat) (hi : rs[i]? = some r) (U : Tk r.F h [r'] h') : Tk F0 h0 (rs.set i r') h' :=
  T.set i hi ⟨U.gp.fr, fun x m => U.gp.nw x (by rw [Fs_cons]; exact List.mem_append_left _ m)⟩ (U.at_.get (i := 0) rfl) (U.at_.ndAt (i := 0) rfl)
theorem Tk.mid {a b : List Res} {r r' : Res} (T : Tk F0 h0 (a ++ r :: b) h) (g : Gp r.F h r'.F h') (hr : r'.R h') (nd : r'.F.Nodup) : Tk F0 h0 (a ++ r' :: b) h' := by
  obtain ⟨x, y⟩ := T.at_.mid g hr nd
  exact ⟨x, T.gp.trans y⟩
theorem Tk.put {a : Addr} {o u : LO} (T : Tk F0 h0 rs h) (i : Nat) (hi : rs[i]? = some (ceR a o)) : Tk F0 h0 (rs.set i (ceR a u)) (up h a u) :=
  T.set i hi ⟨Kp.put (by simp [ceR]), fun x m => .inl m⟩ up_same (by simp [ceR])
theorem At.c2ne {a b : Addr} {o u : LO} {rs : List Res} {h : Lh} (A : At rs h) {i : Nat} (hi : rs[i]? = some (c2R a o b u)) : a ≠ b := by
  have := A.ndAt hi
  simpa [c2R] using this
theorem Tk.putB {a b : Addr} {o u u' : LO} (T : Tk F0 h0 rs h) (i : Nat) (hi : rs[i]? = some (c2R a o b u)) : Tk F0 h0 (rs.set i (c2R a o b u')) (up h b u') := by
  have ne := T.at_.c2ne hi
  exact T.set i hi (r' := c2R a o b u') ⟨Kp.put (by simp [c2R]), fun x m => .inl m⟩ ⟨by rw [up_ne ne]; exact (T.at_.get hi).1, up_same⟩ (by simpa [c2R] using ne)
theorem Tk.putA {a b : Addr} {o o' u : LO} (T : Tk F0 h0 rs h) (i : Nat) (hi : rs[i]? = some (c2R a o b u)) : Tk F0 h0 (rs.set i (c2R a o' b u)) (up h a o') := by
  have ne := T.at_.c2ne hi
  exact T.set i hi (r' := c2R a o' b u) ⟨Kp.put (by simp [c2R]), fun x m => .inl m⟩ ⟨up_same, by rw [up_ne ne.symm]; exact (T.at_.get hi).2⟩ (by simpa [c2R] using ne)
theorem Tk.add {r : Res} (T : Tk F0 h0 rs h) (g : Gp [] h r.F h') (hr : r.R h') (nd : r.F.Nodup) : Tk F0 h0 (rs ++ [r]) h' := by
  obtain ⟨x, y⟩ := T.at_.add g hr nd
  exact ⟨x, T.gp.trans y⟩
theorem Tk.new {q : Addr} {u : LO} (T : Tk F0 h0 rs h) (hq : h q = none) : Tk F0 h0 (rs ++ [ceR q u]) (up h q u) :=
  T.add ⟨(Lx.new hq).kp, fun x m => .inr (by cases List.mem_singleton.mp m; exact hq)⟩ up_same (by simp [ceR])
theorem Tk.new2 {a d : Addr} {o u : LO} (T : Tk F0 h0 rs h) (hd : h d = none) (ha : up h d u a = none) : Tk F0 h0 (rs ++ [c2R a o d u]) (up (up h d u) a o) := by
  have ad : a ≠ d := fun z => by subst z; rw [up_same] at ha; cases ha
  have ha' : h a = none := by rw [up_ne ad] at ha; exact ha
  refine T.add ⟨((Lx.new hd).trans (Lx.new ha)).kp, fun x m => .inr ?_⟩ ⟨up_same, by rw [up_ne ad.symm, up_same]⟩ (by simpa [c2R] using ad)
  simp only [c2R, List.mem_cons, List.not_mem_nil, or_false] at m
  rcases m with rfl | rfl
  · exact ha'
  · exact hd
theorem Tk.midB {a b : List Res} {e d : Addr} {o u u' : LO} (T : Tk F0 h0 (a ++ c2R e o d u :: b) h) : Tk F0 h0 (a ++ c2R e o d u' :: b) (up h d u') := by
  have hi : (a ++ c2R e o d u :: b)[a.length]? = some (c2R e o d u) := by rw [List.getElem?_append_right (Nat.le_refl _), Nat.sub_self]; rfl
  have ne := T.at_.c2ne hi
  exact T.mid (r' := c2R e o d u') ⟨Kp.put (by simp [c2R]), fun x m => .inl m⟩ ⟨by rw [up_ne ne]; exact (T.at_.get hi).1, up_same⟩ (by simpa [c2R] using ne)
theorem Tk.lx (T : Tk F0 h0 rs h) (l : Lx h h') : Tk F0 h0 rs h' := ⟨T.at_.lx l, ⟨T.gp.fr.lx l, T.gp.nw⟩⟩
theorem Tk.sub (T : Tk F0 h0 rs h) (s : qs.Sublist rs) : Tk F0 h0 qs h := ⟨T.at_.sub s, ⟨T.gp.fr, fun x m => T.gp.nw x ((Fs_sub s).subset m)⟩⟩
theorem Tk.perm (T : Tk F0 h0 rs h) (s : rs.Perm qs) : Tk F0 h0 qs h := ⟨T.at_.perm s, ⟨T.gp.fr, fun x m => T.gp.nw x (by
  obtain ⟨r, hr, hx⟩ := mem_Fs.mp m
  exact mem_Fs.mpr ⟨r, s.mem_iff.mpr hr, hx⟩)⟩⟩
theorem Tk.repl {a b : List Res} {r r' : Res} (T : Tk F0 h0 ((a ++ r :: b) ++ [r']) h) : Tk F0 h0 (a ++ r' :: b) h := by
  have p1 : ((a ++ r :: b) ++ [r']).Perm (a ++ r' :: r :: b) := (List.perm_append_singleton r' (a ++ r :: b)).trans (List.perm_middle (a := r') (l₁ := a) (l₂ := r :: b)).symm
  exact (T.perm p1).sub ((List.Sublist.refl a).append (List.Sublist.cons_cons _ (List.sublist_cons_self _ _)))
theorem Tk.fr (T : Tk F0 h0 rs h) {x : Addr} {o : LO} (n : x ∉ F0) (e : h0 x = some o) : h x = some o := T.gp.fr x o n e
theorem Tk.ne (T : Tk F0 h0 rs h) {i j : Nat} {r s : Res} {x y : Addr} (hi : rs[i]? = some r) (hj : rs[j]? = some s) (hx : x ∈ r.F) (hy : y ∈ s.F) (ij : i ≠ j) : x ≠ y := fun z => by
  subst z
  have nd := T.at_.nd
  have key : ∀ (rs : List Res) (i j : Nat), (Fs rs).Nodup → rs[i]? = some r → rs[j]? = some s → i < j → x ∈ r.F → x ∈ s.F → False := by
    intro rs
    induction rs with
    | nil => intro i j _ hi; simp at hi
    | cons q rs ih =>
      intro i j nd hi hj ij h1 h2
      rw [Fs_cons, List.nodup_append] at nd
      cases j with
      | zero => omega
      | succ j =>
        cases i with
        | zero =>
          simp at hi hj
          subst hi
          exact nd.2.2 x h1 x (mem_Fs.mpr ⟨s, List.mem_of_getElem? hj, h2⟩) rfl
        | succ i => exact ih i j nd.2.1 (by simpa using hi) (by simpa using hj) (by omega) h1 h2
  rcases Nat.lt_or_gt_of_ne ij with c | c
  · exact key rs i j nd hi hj c hx hy
  · -- the other way
    have key2 : ∀ (rs : List Res) (i j : Nat), (Fs rs).Nodup → rs[i]? = some r → rs[j]? = some s → j < i → x ∈ r.F → x ∈ s.F → False := by
      intro rs
      induction rs with
      | nil => intro i j _ hi; simp at hi
      | cons q rs ih =>
        intro i j nd hi hj ij h1 h2
        rw [Fs_cons, List.nodup_append] at nd
        cases i with
        | zero => omega
        | succ i =>
          cases j with
          | zero =>
            simp at hi hj
            subst hj
            exact nd.2.2 x h2 x (mem_Fs.mpr ⟨r, List.mem_of_getElem? hi, h1⟩) rfl
          | succ j => exact ih i j nd.2.1 (by simpa using hi) (by simpa using hj) (by omega) h1 h2
    exact key2 rs i j nd hi hj c hx hy
end
end Wl
set_option Elab.async false
set_option linter.all false
set_option maxRecDepth 100000
set_option maxHeartbeats 2000000
/-! a class made without arguments; raising methods; a promise without exceptions of one with them -/
namespace Wl
open PySem PySem.Spec PyProof.Rows L2 Evl Pd
section
variable {X : Cx} {CX : CXT} {k : Nat} {ps : List Str} {sp : Sp} {E : XK} {x : Str} {p pos : Pos} {C : Addr}
theorem pe_mkC0 (M : CalC X.prog X.w X.K X.mg X.base CX k x C ps sp) (hr : Room (k + 1) X.A) (hg : Gl X x) (hx : Passes CX X E)
    (hdb : (x == ("__debug__" : Str)) = false := by decide) : PE X (.Call (.Name x p) [] [] pos) (tMake C sp [] E tNil) := by
  obtain ⟨f, fd, hm, hM, hb, F⟩ := M.ex
  exact pe_make0 hM F hr hg hm hb .nil hx hdb
end
section
variable {P : Program} {w : World} {K : PySem.W.Frag} {mg : Str → Option Value} {base : Heap}
theorem _root_.Pd.SrcM.calX {C : Addr} {m qual : Str} {st : Stmt} {N ps : List Str} {k : Nat} {sp : Sp} (F : SrcM K C m qual st ps) (S : FnScope N ps (defScope st)) (len : ∀ vs H Q E, sp vs H Q E → vs.length = ps.length)
    (hbody : ∀ (f : Addr) (cdv : Value) (A : Around) (outer : List Env) (s : Shared) (H : Hp) (vs : List V) (Q : VK) (E : XK), Room k (A.deeper (envOfC qual (defScope st) s.heap.objs.size f cdv)) → sp vs H Q E →
      ∃ t, PSs (cxOf (L2.CX P w) P w K mg base N qual (defScope st) f cdv A outer s H E) (defBody st) t ∧ t { nx := fun _ H' => Q .non H', rt := Q } (start N vs) H) : CalM P w K mg base (L2.CX P w) (k + 1) C m ps sp := by
  obtain ⟨f, fd, hm, hF, hb⟩ := F.ex
  exact ⟨f, fd, hm, hb, hF.okX S len fun cdv A outer s H vs Q E => hbody f cdv A outer s H vs Q E⟩
theorem FnOk.noX {k : Nat} {f : Addr} {fd : FuncData} {ps : List Str} {D : DX} (F : FnOk P w K mg base (L2.CX P w) k f fd ps (SpX K D)) : FnOk P w K mg base CX0 k f fd ps (SpW K fun ds h P => D ds h P fun _ _ _ => False) := by
  have go : ∀ vs H Q (E : XK), SpX K (fun ds h P _ => D ds h P fun _ _ _ => False) vs H Q E → SpX K D vs H Q fun _ _ _ => False := by
    rintro vs H Q E ⟨N, h, ds, P, X, S, r, d, k⟩
    exact ⟨N, h, ds, P, _, Sx.noX S.toSim, r, d, fun v d' H' h' t S' r' p => k v d' H' h' t (S.to t S'.toSim) r' p⟩
  refine ⟨fun vs H Q E h => F.len _ _ _ _ (go _ _ _ _ h), fun A outer s H args us vs Q E hr he hb hv hs => codeAny_mono (F.run A outer s H args us vs Q _ hr he hb hv (go _ _ _ _ hs)) fun r s' hq => ?_⟩
  cases r with
  | ok fl => cases fl <;> exact hq
  | error e =>
    obtain ⟨_, _, _, _, _, _, _, _, _, _, _, _, z⟩ := hq
    exact z.elim
theorem _root_.Pd.Cal.noX {k : Nat} {x : Str} {ps : List Str} {D : DX} (C : Cal P w K mg base (L2.CX P w) k x ps (SpX K D)) : Cal P w K mg base CX0 k x ps (SpW K fun ds h P => D ds h P fun _ _ _ => False) := by
  obtain ⟨f, fd, h1, h2, h3, F⟩ := C.ex
  exact ⟨f, fd, h1, h2, h3, FnOk.noX F⟩
theorem _root_.Pd.CalM.noX {k : Nat} {C : Addr} {m : Str} {ps : List Str} {D : DX} (M : CalM P w K mg base (L2.CX P w) k C m ps (SpX K D)) : CalM P w K mg base CX0 k C m ps (SpW K fun ds h P => D ds h P fun _ _ _ => False) := by
  obtain ⟨f, fd, h1, h2, F⟩ := M.ex
  exact ⟨f, fd, h1, h2, FnOk.noX F⟩
end
end Wl
set_option Elab.async false
set_option linter.all false
set_option maxRecDepth 100000
set_option maxHeartbeats 4000000
/-! Sd: sorted of a dict whose keys are pairs of ints; sorted of tuples by their first int; d.pop(k) of such a dict. No law, no program. -/
namespace SrtO
open PySem PyProof.Rows Srt
section
variable {prog : Program} {w : World} {A : Around} {E : Value → Shared → Prop} {s : Shared}
/-- a pair, its first an int -/
def IsP1 (h : Heap) (v : Value) (x : Int) : Prop := ∃ a o t y n, v = .ref a ∧ h.get? a = some o ∧ o.cls = .type "tuple" ∧ o.data = .seq #[.int x t, y] n
theorem IsP1.keeps {h h' : Heap} {v : Value} {x : Int} (p : IsP1 h v x) (k : ∀ b o, h.get? b = some o → o.cls = .type "tuple" → h'.get? b = some o) : IsP1 h' v x := by
  obtain ⟨a, o, t, y, n, e, ho, hc, hd⟩ := p
  exact ⟨a, o, t, y, n, e, k _ _ ho hc, hc, hd⟩
theorem swo_k (k : Value → Int) : Swo fun v u => decide (k v < k u) := by
  refine ⟨fun x y h => ?_, fun x y z h1 h2 => ?_⟩
  · have a := of_decide_eq_true (p := k x < k y) h
    exact decide_eq_false (p := k y < k x) (by omega)
  · have a := of_decide_eq_false (p := k y < k x) h1
    have b := of_decide_eq_false (p := k z < k y) h2
    exact decide_eq_false (p := k z < k x) (by omega)
theorem p1_cmp {vs : List Value} {k : Value → Int} (hp : ∀ v ∈ vs, IsP1 s.heap v (k v)) (inj : ∀ v ∈ vs, ∀ u ∈ vs, k v = k u → v = u) : Cmp prog w A s (tuples' true) (fun p => p.1 ∈ vs) (lt2 fun v u => decide (k v < k u)) := by
  intro p q hm hm'
  have h1 := hp _ hm
  have h2 := hp _ hm'
  have hi := inj _ hm _ hm'
  show wpAny (model prog w) A (keyLt' (tuples' true) p.1 q.1) (fun r s' => s' = s ∧ r = decide (k p.1 < k q.1)) (fun _ _ => False) s
  obtain ⟨a, o, t, y, n, e, ho, hc, hd⟩ := h1
  obtain ⟨a', o', t', y', n', e', ho', hc', hd'⟩ := h2
  generalize hx : k p.1 = x at *
  generalize hx' : k q.1 = x' at *
  rw [e, e'] at hi ⊢
  refine PySem.W.kat_lt ho hd ho' hd' ?_
  show PySem.W.KatLex prog w A true (decide (2 < 2)) _ [(.int x t, .int x' t'), (y, y')] 0 s
  refine PySem.W.kat_cons (SeqAt.EqAt.int_int x t x' t' prog w _ _ ?_)
  refine PySem.W.kat_go (fun e1 => ?_) (fun e1 => ?_)
  · have ex : x = x' := by simpa using e1
    have ea : a = a' := by have := hi ex; injection this
    subst ea
    rw [ho] at ho'
    cases ho'
    rw [hd] at hd'
    injection hd' with hd' _
    have hl : [Value.int x t, y] = [Value.int x' t', y'] := congrArg Array.toList hd'
    injection hl with _ hl
    injection hl with hl _
    subst hl
    refine PySem.W.kat_yes (PySem.W.kat_cons (SeqAt.EqAt.same _ prog w _ _ ?_))
    refine PySem.W.kat_go (fun _ => ?_) (fun e2 => absurd e2 (by simp))
    exact PySem.W.kat_yes (PySem.W.kat_nil ⟨rfl, by rw [ex]; exact (decide_eq_false (Int.lt_irrefl _)).symm⟩)
  · exact PySem.W.kat_no (oneLt_int ⟨rfl, rfl⟩)
theorem firsts1 {h : Heap} : ∀ {vs : List Value}, (∀ v ∈ vs, ∃ x, IsP1 h v x) → ∃ fs : List Value, PySem.W.KatTups h vs fs ∧ fs.length = vs.length ∧ ∀ f ∈ fs, ∃ x t, f = Value.int x t
  | [], _ => ⟨[], PySem.W.KatTups.nil, rfl, fun _ hm => by simp at hm⟩
  | v :: vs, hp => by
    obtain ⟨fs, h1, h2, h3⟩ := firsts1 (vs := vs) fun v' hm => hp v' (List.mem_cons_of_mem _ hm)
    obtain ⟨x, a, o, t, y, n, e, ho, hc, hd⟩ := hp v (List.mem_cons_self ..)
    subst e
    refine ⟨.int x t :: fs, PySem.W.KatTups.cons ho hc hd rfl h1, by rw [List.length_cons, List.length_cons, h2], fun f hm => ?_⟩
    rcases List.mem_cons.mp hm with rfl | hm
    · exact ⟨x, t, rfl⟩
    · exact h3 f hm
theorem p1_sortable {a : Addr} {vs : List Value} {k : Value → Int} (h0 : 0 < vs.length) (hp : ∀ v ∈ vs, IsP1 s.heap v (k v)) (inj : ∀ v ∈ vs, ∀ u ∈ vs, k v = k u → v = u) (ha : ∀ o, s.heap.get? a = some o → o.cls ≠ .type "tuple") : SortableO prog w A s a vs fun v u => decide (k v < k u) := by
  intro h' keep
  have hp' : ∀ v ∈ vs, IsP1 h' v (k v) := fun v hm => (hp v hm).keeps fun b o e c => keep b o (fun z => by subst z; exact ha o e c) e
  obtain ⟨fs, h1, h2, h3⟩ := firsts1 fun v hm => ⟨_, hp' v hm⟩
  refine ⟨tuples' true, fun Q E hq => ?_, p1_cmp hp' inj⟩
  refine PySem.W.kat_kind (T := .type "int") h1 (by omega) (fun f hm => ?_) (by rfl) ?_
  · obtain ⟨x, t, rfl⟩ := h3 f hm
    exact PySem.W.Looks.now
  · have e : (Value.type "int" != Value.type "tuple") = true := by first | decide +kernel | rfl | decide
    rw [e]
    exact hq
end
end SrtO
namespace L2
open PySem PySem.Spec PyProof.Rows
/-- sorted(xs), pairs with different ints in front -/
def rSortedF (K : PySem.W.Frag) : List V → Hp → VK → Prop := fun vs H Q => ∃ (a : Addr) (zs : List (V × Int)), vs = [V.ref a] ∧ SqL K H a (zs.map (·.1)) ∧ (∀ z ∈ zs, ∃ t y, z.1 = V.ref t ∧ SqT K H t [.int z.2, y]) ∧ (zs.map (·.2)).Nodup ∧
  ∀ (zs' : List (V × Int)) p, zs'.Perm zs → zs'.Pairwise (fun x y => x.2 ≤ y.2) → H p = none → Q (.ref p) (upd H p (.lst (zs'.map (·.1))))
theorem nodup_snd {α : Type} : ∀ {zs : List (α × Int)}, (zs.map (·.2)).Nodup → ∀ x ∈ zs, ∀ y ∈ zs, x.2 = y.2 → x = y
  | [], _, _, h, _, _, _ => by cases h
  | z :: zs, hn, x, hx, y, hy, e => by
    rw [List.map_cons, List.nodup_cons] at hn
    rcases List.mem_cons.mp hx with rfl | hx1 <;> rcases List.mem_cons.mp hy with rfl | hy1
    · rfl
    · exact (hn.1 (List.mem_map.mpr ⟨y, hy1, e.symm⟩)).elim
    · exact (hn.1 (List.mem_map.mpr ⟨x, hx1, e⟩)).elim
    · exact nodup_snd hn.2 x hx1 y hy1 e
section
variable {X : Cx}
open Classical in
theorem cr_sortedF : CallR X (.builtin "sorted") (rSortedF X.K) := by
  intro pins s σ H vs us Q I r h
  obtain ⟨a, zs, rfl, hs, hx, hnd, q⟩ := h
  obtain ⟨its, rv, hl, hz⟩ := I.list hs
  rw [Vals.ref1 r]
  obtain ⟨e1, e2⟩ := refs_back rv fun x m => by
    obtain ⟨z, hz', rfl⟩ := List.mem_map.mp m
    obtain ⟨t, y, e, _⟩ := hx z hz'
    exact ⟨t, e⟩
  -- the int of a value
  have uni : ∀ z ∈ zs, ∀ z' ∈ zs, z.1 = z'.1 → z.2 = z'.2 := fun z hz1 z' hz2 e => by
    obtain ⟨t, y, e3, ht⟩ := hx z hz1
    obtain ⟨t', y', e3', ht'⟩ := hx z' hz2
    rw [e3, e3'] at e
    cases e
    have := I.tuple_inj ht ht'
    injection this with this _
    injection this
  let k : V → Int := fun v => if h : ∃ z ∈ zs, z.1 = v then h.choose.2 else 0
  have hk : ∀ z ∈ zs, k z.1 = z.2 := fun z hz1 => by
    have h : ∃ z' ∈ zs, z'.1 = z.1 := ⟨z, hz1, rfl⟩
    show (if h : ∃ z' ∈ zs, z'.1 = z.1 then h.choose.2 else 0) = _
    rw [dif_pos h]
    exact uni _ h.choose_spec.1 _ hz1 h.choose_spec.2
  have hm : ∀ v ∈ its, ∃ z ∈ zs, z.1 = backV v := fun v hv => by
    have : backV v ∈ zs.map (·.1) := by rw [e1]; exact List.mem_map.mpr ⟨_, hv, rfl⟩
    exact List.mem_map.mp this
  have hp : ∀ v ∈ its, SrtO.IsP1 s.heap v (k (backV v)) := fun v hv => by
    obtain ⟨t, rfl⟩ := e2 v hv
    obtain ⟨z, hz1, ez⟩ := hm _ hv
    obtain ⟨t', y, e, ht⟩ := hx z hz1
    rw [← ez, hk z hz1]
    have e' : V.ref t = V.ref t' := by rw [← e, ez]; rfl
    cases e'
    obtain ⟨its2, r2, ⟨o, ho, hc, n, hd⟩, _⟩ := I.tuple ht
    obtain ⟨u1, u2, rfl, ri, rj⟩ := vals2 r2
    obtain ⟨t1, rfl⟩ := ri
    exact ⟨t, o, t1, u2, n, rfl, ho, hc, hd⟩
  have hi : ∀ v ∈ its, ∀ u ∈ its, k (backV v) = k (backV u) → v = u := fun v hv u hu e => by
    obtain ⟨z, hz1, ez⟩ := hm _ hv
    obtain ⟨z', hz2, ez'⟩ := hm _ hu
    rw [← ez, ← ez', hk z hz1, hk z' hz2] at e
    have := nodup_snd hnd z hz1 z' hz2 e
    subst this
    obtain ⟨t, rfl⟩ := e2 v hv
    obtain ⟨t', rfl⟩ := e2 u hu
    have e' : V.ref t = V.ref t' := ez.symm.trans ez'
    cases e'; rfl
  refine SrtO.sorted_ord (SrtO.swo_k fun v => k (backV v)) hl.isList (by rw [← rv.length]; exact hz) (fun h2 h₁ a' ha' kk => SrtO.p1_sortable (s := { s with heap := h₁ }) (by omega) (fun v hv => (hp v hv).keeps fun b o e _ => (kk b o e).2) hi fun o e => ?_) fun out h1 h2 => ?_
  · have e' : some o = some (seqObj "list" its.toArray 0) := e.symm.trans ha'
    cases e'
    intro c
    exact absurd (Value.type.inj c) (by decide)
  · obtain ⟨ep, he'⟩ := PyProof.Rows.sortedAll_at s.heap its out.toArray
    have h3 : ∀ u ∈ out, ∃ a, u = Value.ref a := fun u hu => e2 u (h2.perm.mem_iff.mp hu)
    have hpm : (out.map backV).Perm (zs.map (·.1)) := by rw [e1]; exact h2.perm.map _
    have hlen : (out.map backV).length ≤ sizeLine := by rw [hpm.length_eq]; exact hz
    have e4 : zs = (zs.map (·.1)).map fun v => (v, k v) := by
      rw [List.map_map]
      conv => lhs; rw [← List.map_id zs]
      exact List.map_congr_left fun z hz1 => by show z = (z.1, k z.1); rw [hk z hz1]
    have q2 := q ((out.map backV).map fun v => (v, k v)) (s.heap.objs.size + 1) (by rw [e4]; exact hpm.map _) (by
      rw [List.map_map]
      exact List.pairwise_map.mpr (h1.imp fun {x y} h => Int.not_lt.mp (of_decide_eq_false (p := k (backV y) < k (backV x)) h))) (I.hok.fresh (Nat.le_succ _))
    have e5 : (((out.map backV).map fun v => (v, k v)).map (·.1)) = out.map backV := by rw [List.map_map]; exact List.map_id _
    rw [e5] at q2
    exact ⟨.ref _, upd H (s.heap.objs.size + 1) (.lst (out.map backV)), I.laid (t' := s.toks) (fun _ _ => PyProof.Rows.sortedAll_old) (Nat.le_succ _) ⟨hlen, out, ep, vals_back h3, he'⟩, rfl, q2⟩
/-- the ints of a pair -/
def kA (H : Hp) (b : Addr) : Int × Int := match H b with
  | some (.tup [.int i, .int j]) => (i, j)
  | _ => (0, 0)
/-- sorted(d), the keys pairs of ints -/
def rSortedDT : List V → Hp → VK → Prop := fun vs H Q => ∃ (a : Addr) (kvs : List (List Key × V)), vs = [V.ref a] ∧ Rd H a (.dT kvs) ∧ (∀ p ∈ kvs, ∃ i j : Int, p.1 = [.inl i, .inl j]) ∧
  ∀ (bs ys : List Addr) p, IsKeys H kvs bs → ys.Perm bs → ys.Pairwise (fun x y => SrtO.lexB (kA H y) (kA H x) = false) → H p = none → Q (.ref p) (upd H p (.lst (ys.map V.ref)))
theorem isKeys_mem {H : Hp} : ∀ {kvs : List (List Key × V)} {bs : List Addr}, IsKeys H kvs bs → ∀ b ∈ bs, ∃ p ∈ kvs, H b = some (.tup (p.1.map kV))
  | _, _, .nil, _, h => by cases h
  | p :: _, _, .cons a r, c, h => by
    rcases List.mem_cons.mp h with rfl | h
    · exact ⟨p, List.mem_cons_self .., a⟩
    · obtain ⟨q, hq, e⟩ := isKeys_mem r c h
      exact ⟨q, List.mem_cons_of_mem _ hq, e⟩
theorem cr_sortedDT (hcalm : X.calm = true) : CallR X (.builtin "sorted") rSortedDT := by
  intro pins s σ H vs us Q I r h
  obtain ⟨a, kvs, rfl, hd, hkv, q⟩ := h
  obtain ⟨u, rfl, rx⟩ := vals1 r
  cases rx
  obtain ⟨z, hs, ks, pr, o, es, ep, ho, hx, hdt, he, hn⟩ := (show ObjOk X.prog X.w H s.heap a (.dT kvs) from hd.ok I.hok)
  have l1 : es.size = ks.length := size_of_entries he
  have l2 : kvs.length = ks.length := Paired.length pr
  have kb := isKeys_of pr
  refine Calls.call_function_entry PyProof.Rows.kind_sorted PyProof.Rows.plain_sorted PyProof.Rows.entry_sorted (PyProof.Rows.args_sorted1 _) ?_
  unfold Builtin.«sorted»
  refine wpAny_bind (m := checkCount "sorted" 1 1 _) (wpAny_pure ?_)
  refine wpAny_bind (PySem.W.kdu_collect (A := X.A.in1) (kdl_raw hs hx hdt) (I.ok.hd hcalm) ho (by omega) fun h' tk acc hk it => ?_)
  have ea : acc.toList = (ks.map fun x => x.2.1).map Value.ref := by
    have hl : acc.toList.length = ks.length := by rw [Array.length_toList, it.1]; exact l1
    rw [List.map_map]
    apply List.ext_getElem?
    intro j
    rw [List.getElem?_map]
    cases hj : acc.toList[j]? with
    | none =>
      have h1 := List.getElem?_eq_none_iff.mp hj
      rw [List.getElem?_eq_none (by omega)]
      all_goals rfl
    | some v =>
      obtain ⟨en, hen, hv⟩ := it.2 j v (by rw [← Array.getElem?_toList]; exact hj)
      have qe := entry_at he j
      rw [hen] at qe
      cases hb : ks[j]? with
      | none =>
        rw [hb] at qe
        exact nomatch (show some en = none from qe)
      | some b =>
        rw [hb] at qe
        have e2 : en = entryOfKey (tupleKind (mixKind X.prog X.w)) b := Option.some.inj qe
        rw [hv, e2]
        all_goals rfl
  generalize hbs : (ks.map fun x => x.2.1) = bs at ea kb
  have hbl : bs.length = ks.length := by rw [← hbs, List.length_map]
  have hal : acc.toList.length ≤ sizeLine := by rw [ea, List.length_map]; omega
  have I1 : Inv X pins σ H { s with heap := h', toks := tk } := I.kept hk
  have hp : ∀ v ∈ acc.toList, Srt.IsPair h' v (match v with | .ref b => (kA H b).1 | _ => 0) (match v with | .ref b => (kA H b).2 | _ => 0) := fun v hv => by
    rw [ea] at hv
    obtain ⟨b, hb, rfl⟩ := List.mem_map.mp hv
    obtain ⟨p, hp, hbt⟩ := isKeys_mem kb b hb
    obtain ⟨i, j, eij⟩ := hkv p hp
    rw [eij] at hbt
    have hbt : H b = some (.tup [.int i, .int j]) := hbt
    obtain ⟨_, its2, r2, o2, ho2, hc2, n2, hd2⟩ := I1.hok _ _ hbt
    obtain ⟨u1, u2, rfl, ri, rj⟩ := vals2 r2
    obtain ⟨t1, rfl⟩ := ri
    obtain ⟨t2, rfl⟩ := rj
    have ek : kA H b = (i, j) := by unfold kA; rw [hbt]
    exact ⟨b, o2, t1, t2, n2, rfl, ho2, hc2, by simp only [ek]; exact hd2⟩
  refine wpAny_bind (wpAny_newList ?_ hal)
  have hoL : (h'.push (seqObj "list" acc.toList.toArray 0)).get? h'.objs.size = some (seqObj "list" acc.toList.toArray 0) := Heap.get?_push_size _ rfl
  show wpAny _ _ _ _ _ { s with heap := h'.push (seqObj "list" acc.toList.toArray 0), toks := tk }
  refine wpAny_bind (wpAny_holding (wpAny_call_entry PyProof.Rows.slot_list_sort ⟨_, hoL, rfl⟩ PyProof.Rows.entry_list_sort
    (SrtO.list_sort_ord (s := { s with heap := h'.push (seqObj "list" acc.toList.toArray 0), toks := tk }) (SrtO.swo_lex fun v => (match v with | .ref b => (kA H b).1 | _ => 0, match v with | .ref b => (kA H b).2 | _ => 0)) hoL hal
      (fun h2 => SrtO.pairs_sortableO (by omega) (fun v hv => (hp v hv).keeps fun b o e _ => Heap.get?_push_of_some _ e) fun o e => ?_) fun out h1 h2 => ⟨_, rfl, ?_⟩) (PyProof.Rows.args_list_sort _)))
  · have e' : some o = some (seqObj "list" acc.toList.toArray 0) := e.symm.trans hoL
    cases e'
    intro c
    exact absurd (Value.type.inj c) (by decide)
  · obtain ⟨e', he'⟩ := PyProof.Rows.sortedHeap_at (vs := acc.toList) (out := out.toArray) hoL
    obtain ⟨ys, rfl⟩ : ∃ ys : List Addr, out = ys.map Value.ref := by
      have : ∀ u ∈ out, ∃ b, u = Value.ref b := fun u hu => by
        have := h2.perm.mem_iff.mp hu
        rw [ea] at this
        obtain ⟨b, _, rfl⟩ := List.mem_map.mp this
        exact ⟨b, rfl⟩
      clear h1 h2 he'
      induction out with
      | nil => exact ⟨[], rfl⟩
      | cons u l ih =>
        obtain ⟨b, rfl⟩ := this u (List.mem_cons_self ..)
        obtain ⟨ys, rfl⟩ := ih fun u hu => this u (List.mem_cons_of_mem _ hu)
        exact ⟨b :: ys, rfl⟩
    have hpm : ys.Perm bs := by
      have := h2.perm
      rw [ea] at this
      have f := this.map fun v => match v with | .ref b => b | _ => 0
      rw [List.map_map, List.map_map] at f
      simpa [Function.comp_def] using f
    have hlen : (ys.map V.ref).length ≤ sizeLine := by rw [List.length_map, hpm.length_eq, hbl]; omega
    refine wpAny_pure ⟨_, rfl, .ref h'.objs.size, upd H h'.objs.size (.lst (ys.map V.ref)), I1.laid (t' := tk) (fun b u e => ?_) (Nat.le_refl _)
      (show ObjOk X.prog X.w _ _ _ (.lst (ys.map V.ref)) from ⟨hlen, ys.map Value.ref, e', vals_refs ys, he'⟩), rfl, q bs ys _ kb hpm ?_ (I1.hok.fresh (Nat.le_refl _))⟩
    · have hb : b < h'.objs.size := Heap.lt_size e
      rw [PyProof.Rows.sortedHeap_old (Nat.ne_of_lt hb) (by rw [size_push']; exact Nat.lt_succ_of_lt hb)]
      exact Heap.get?_push_of_some _ e
    · exact List.pairwise_map.mp h1
end
end L2
namespace PySem
open Sem (wp)
section
variable {prog : Program} {w : World} {K : Type} [DecidableEq K] {knd : HeapKind prog w K} {A : Around} {E : Value → Shared → Prop} {s : Shared}
theorem meetsPop1 {d b : Addr} {k : K} (hd : (d == sysModules) = false) :
    MeetsIn prog w (Builtin.«dict.pop» ⟨[.ref d, .ref b], []⟩) (fun A R s => ∃ xs p, knd.room A.in1 ∧ knd.is s.heap k b ∧ s.heap.DictOfH knd d xs ∧ xs.length ≤ sizeLine ∧ atKey xs k = some p ∧
      ∀ h' tk, h'.DictOfH knd d (DT.dropH xs k) → Heap.SameBut d s.heap h' → R (.ok (.ret p.2)) { s with heap := h', toks := tk }) :=
  .of_wp fun A R s ⟨xs, p, hu, hkey, hm, hsz, hat, hsome⟩ => by
    obtain ⟨o, es, ep, ho, hc, hdat, he, his, hn⟩ := id hm
    have hes : es.size = xs.length := size_of_entries he
    have hpart : (keyPart (Value.ref b)).isSome = false := rfl
    unfold Builtin.«dict.pop»
    refine wpAny_bind ?_
    unfold Builtin.Dict.keyAndDefault
    refine wpAny_bind (wpAny_notOrdered_dict hm.typeIs ?_)
    show wpAny _ _ (pure (d, Value.ref b, none)) _ _ s
    refine wpAny_pure ?_
    simp only [hpart, Bool.false_eq_true, if_false]
    refine wpAny_bind (wpAny_dictEntries ho hdat (wpAny_bind (wpAny_pure ?_)))
    cases hem : es.isEmpty with
    | true =>
      have h0 : xs = [] := by
        have z : es.size = 0 := by simpa using hem
        exact List.length_eq_zero_iff.mp (by omega)
      rw [h0] at hat
      cases hat
    | false =>
      simp only [Bool.false_eq_true, if_false]
      refine wpAny_bind (DT.takeH hu hkey hm hsz (fun hno => by rw [hat] at hno; cases hno) fun p' e hp hev h' hm' hs' => ?_)
      rw [hat] at hp
      cases hp
      simp only [Option.isNone_some, Bool.false_eq_true, if_false]
      exact wpAny_bind (wpAny_letGo (wpAny_pure ⟨e.val, rfl, by rw [hev]; exact hsome h' _ hm' hs'⟩))
end
end PySem
namespace L2
open PySem PySem.Spec PyProof.Rows
section
variable {X : Cx}
/-- d.pop(k), the key there -/
def rPopT1 : V → List V → Hp → VK → Prop := fun x xs H Q => ∃ (a : Addr) (kvs : List (List L2.Key × V)) (k : List L2.Key) (b : Addr) (v : V), x = .ref a ∧ xs = [.ref b] ∧ H a = some (.dT kvs) ∧ H b = some (.tup (k.map kV)) ∧ valV kvs k = some v ∧ Q v (upd H a (.dT (dropK kvs k)))
theorem mt_popT1 (hu : X.A.units + 1 < cLine) : MtR X "dict.pop" rPopT1 := by
  intro pins s σ H x xs v us Q I rx rxs h
  obtain ⟨a, kvs, k, b, d, rfl, rfl, ha, hb, ev, q⟩ := h
  cases rx
  obtain ⟨u1, rfl, r1⟩ := vals1 rxs
  cases r1
  obtain ⟨z, hd, xs', rel, dd⟩ := dt_of I.hok ha
  have hz : xs'.length ≤ sizeLine := by rw [← Paired.length rel]; exact z
  obtain ⟨w', hw, rw'⟩ := RelO.some_of (v := d) (o := (atKey xs' k).map (·.2)) (by rw [← ev]; exact rel.val k)
  obtain ⟨p, hp, hp2⟩ := Option.map_eq_some_iff.mp hw
  refine call_meetsIn PySem.F.slot_dict_pop dd.typeIs PySem.F.entry_dict_pop (PySem.F.args_dict_pop_2 _ _) (meetsPop1 (knd := tupleKind (mixKind X.prog X.w)) (k := k) hd)
    ⟨xs', p, tupleKind_room_in1 hu, key_of I.hok hb, dd, hz, hp, fun h' tk dd' hs => ?_⟩
  obtain ⟨o, es, ep, hq, h2, h3, h4, _, h5⟩ := dd'
  have I2 : Inv X pins σ (upd H a (.dT (dropK kvs k))) { s with heap := h', toks := tk } :=
    d_write I (by rw [ha]; exact True.intro) hs ⟨o, hq⟩ ⟨Nat.le_trans (dropK_le kvs k) z, hd, _, (DX.KT_drop k rel).keeps (fun c ys ec => (by rw [upd_ne (ne_of ec ha (fun z => nomatch z))]; exact ec)), o, es, ep, hq, h2, h3, h4, h5⟩
  show EP X pins σ Q p.2 _
  exact ⟨d, _, I2, by rw [hp2]; exact rw', q⟩
end
end L2
set_option Elab.async false
set_option linter.all false
set_option maxRecDepth 100000
set_option maxHeartbeats 4000000
/-! Wt: dicts whose keys are pairs of ints, sorted lists of tuples. -/
namespace Wl
open PySem PySem.Spec PyProof.Rows L2 Evl Pd
abbrev pK (x : Int × Int) : List Key := [.inl x.1, .inl x.2]
abbrev pD (x : Int × Int) : PyData := .tuple [.int x.1, .int x.2]
theorem pK_inj {x y : Int × Int} (h : pK x = pK y) : x = y := by
  obtain ⟨a, b⟩ := x
  obtain ⟨c, d⟩ := y
  simp only [pK, List.cons.injEq, Sum.inl.injEq] at h
  rw [h.1, h.2.1]
/-- no pair of ints among the text's constants -/
def NP (K : PySem.W.Frag) : Prop := ∀ (a : Addr) (i j : Int), ¬ KT K a [.int i, .int j]
def keyT : PyData → Option (Int × Int)
  | .tuple [.int i, .int j] => some (i, j)
  | _ => none
@[simp] theorem keyT_pD {i j : Int} : keyT (.tuple [.int i, .int j]) = some (i, j) := rfl
theorem keyT_eq {d : PyData} {x : Int × Int} (h : keyT d = some x) : d = pD x := by
  unfold keyT at h
  split at h
  · cases h; rfl
  · cases h
/-- the dict at a place, locked or not -/
def tdv (h : Lh) (p : Addr) : Option (List (List Key × PyData)) := match h p with
  | some (.dT kvs) => some kvs
  | some (.lkT _ _ kvs) => some kvs
  | _ => none
def tTGet (td ty : TE) : TE := tDGet td ty
def tTIn (ty td : TE) : TE := tDIn ty td
def tTNotIn (ty td : TE) : TE := tDNotIn ty td
def sTPut (td ty tv : TE) : TS := sDPut td ty tv
def tLockT (t : TE) : TE := tLockE t
def iKeysT (t : TE) : TI := iKeys t
section
variable {X : Cx} {o i e value : Expr} {pos pos' : Pos} {td ty tv : TE}
theorem pe_tget (hu : X.A.units + 1 < cLine) (ho : PE X o td) (hi : PE X i ty) (hs : NoSl i) : PE X (.Subscript o i pos) (tTGet td ty) := pe_dget hu ho hi hs
theorem pc_tin (hu : X.A.units + 1 < cLine) (hi : PE X i ty) (ho : PE X o td) : PC X .In i o (tTIn ty td) := pc_din hu hi ho
theorem pc_tnotin (hu : X.A.units + 1 < cLine) (hi : PE X i ty) (ho : PE X o td) : PC X .NotIn i o (tTNotIn ty td) := pc_dnotin hu hi ho
theorem ps_tput (hu : X.A.units + 1 < cLine) (ho : PE X o td) (hi : PE X i ty) (hv : PE X value tv) (hs : swapsWith value (some (.Subscript o i pos')) pos.line X.env = pure false) :
    PS X (.Assign [.Subscript o i pos'] value pos) (sTPut td ty tv) := ps_dput hu ho hi hv hs
theorem pe_lockT {t : TE} (h : PE X e t) : PE X e (tLockT t) := pe_lock h
theorem pi_keysT {tg : Expr} (h : PE X e td) : PI X tg e (iKeysT td) := pi_keys h
theorem k_tpop {o e : Expr} {es : List Expr} {to : TE} {t : TA} {apos cpos : Pos} {K : PySem.W.Frag} (hK : X.K = K) (hu : X.A.units + 1 < cLine) (ho : PE X o to) (ha : PA X (e :: es) t)
    (hbase : attributeBase o "pop" X.env (eval o X.env) = eval o X.env := by rfl)
    (hfew : ((backTo cpos (starEach (e :: es) X.env)).all (fun x => !x.1) && (backToKw cpos (keywordEach [] X.env)).all (fun x => x.1.isSome)
      && decide ((e :: es).length + ([] : List Keyword).length + (if ([] : List Keyword).isEmpty then 0 else 1) < 30)) = true := by rfl)
    (hline : (apos.endLine == cpos.line) = true := by rfl)
    (hs : starEach (e :: es) X.env = (false, eval e X.env) :: starEach es X.env := by rfl) (hpl : (backTo cpos (starEach es X.env)).any (·.1) = false := by rfl) :
    PE X (.Call (.Attribute o "pop" apos) (e :: es) [] cpos) (tBM K "dict" rPopT1 to t) := by subst hK; exact pe_bm PySem.F.plainAttrs_dict PySem.F.slot_dict_pop PySem.F.type_dict_pop (mt_popT1 hu) ho ha hbase hfew hline hs hpl
theorem k_sortedF {K : PySem.W.Frag} (hK : X.K = K) : CallR X (.builtin "sorted") (rSortedF K) := by subst hK; exact cr_sortedF
theorem k_lenSetI {K : PySem.W.Frag} (hK : X.K = K) {a : Expr} {ta : TE} {p p2 q pos : Pos} (hg : Gl X "len") (hm : X.mg "len" = none) (hg2 : Gl X "set") (hm2 : X.mg "set" = none) (ha : PE X a ta) (hc : X.calm = true := by rfl)
    (hs : starEach [a] X.env = (false, eval a X.env) :: starEach [] X.env := by rfl) :
    PE X (.Call (.Name "len" p) [.Call (.Name "set" p2) [a] [] q] [] pos) (RZ.tLenSetI K ta) := by subst hK; exact RZ.pe_lenSetI hg hm hg2 hm2 ha hc hs
end
section
variable {K : PySem.W.Frag} {XX : XP} {N : Addr → Prop} {H : Hp} {h : Lh}
theorem Rl.keyT {v : V} {d : PyData} {x : Int × Int} (np : NP K) (r : Rl K N H h v d) (e : Wl.keyT d = some x) : ∃ b, v = .ref b ∧ H b = some (.tup ((pK x).map L2.kV)) := by
  cases keyT_eq e
  cases r with
  | tup h1 h2 =>
    cases h2 with
    | cons a r2 => cases r2 with
      | cons b r3 =>
        cases r3
        have ea := a.i
        have eb := b.i
        subst ea eb
        rcases h1 with h1 | h1
        · exact ⟨_, rfl, h1.1⟩
        · exact (np _ _ _ h1).elim
theorem Sim.tupn {a : Addr} {xs : List V} (S : Sim K N H h) (e : H a = some (.tup xs)) : h a = none := by
  cases z : h a with
  | none => rfl
  | some o =>
    obtain ⟨_, u, e2, k⟩ := S.at_ a o z
    rw [e] at e2
    cases e2
    cases k
theorem Sim.dT {a : Addr} {kvs : List (List Key × PyData)} (S : Sim K N H h) (e : h a = some (.dT kvs)) : ∃ xs, H a = some (.dT xs) ∧ KP (List Key) K N H h xs kvs := by
  obtain ⟨n, u, z, k⟩ := S.at_ a _ e
  cases k with
  | dT k => exact ⟨_, z, k⟩
theorem Sim.tdv {a : Addr} {kvs : List (List Key × PyData)} (S : Sim K N H h) (e : Wl.tdv h a = some kvs) : ∃ xs, Rd H a (.dT xs) ∧ KP (List Key) K N H h xs kvs := by
  unfold Wl.tdv at e
  split at e
  · next q =>
    cases e
    obtain ⟨xs, z, r⟩ := S.dT q
    exact ⟨xs, .inl z, r⟩
  · next od ys ks q =>
    cases e
    obtain ⟨n, u, z, k⟩ := S.at_ a _ q
    cases k with
    | lkT k => exact ⟨_, .inr ⟨_, z⟩, k⟩
  · cases e
theorem DGet.tr {a b : Addr} {kvs : List (List Key × V)} {k : List Key} (e : Rd H a (.dT kvs)) (eb : H b = some (.tup (k.map L2.kV))) : DGet H a (.ref b) (valV kvs k) := .inr ⟨kvs, k, b, e, rfl, eb, rfl⟩
theorem KP.someT {kvs : List (List Key × PyData)} {xs : List (List Key × V)} {k : List Key} (r : KP (List Key) K N H h xs kvs) : (valV xs k).isSome = (valD kvs k).isSome := by
  cases hv : valD kvs k with
  | none => rw [(KP.val r).1 hv]; rfl
  | some x => obtain ⟨u, hu, _⟩ := (KP.val r).2 x hv; rw [hu]; rfl
@[simp] def wTGet (K : PySem.W.Frag) (a b : WE) : WE := fun ρ h P => a ρ h fun d h1 => b ρ h1 fun y h2 => ∃ p kvs k v, d = rf p ∧ tdv h2 p = some kvs ∧ keyT y = some k ∧ NP K ∧ valD kvs (pK k) = some v ∧ P v h2
instance {td ty : TE} {a b : WE} [A : RE K XX td a] [B : RE K XX ty b] : RE K XX (tTGet td ty) (wTGet K a b) := ⟨fun S E p k =>
  A.run S E p fun v d H1 h1 t1 S1 r1 p1 => B.run S1 (E.tr t1) p1 fun y yd H2 h2 t2 S2 r2 ⟨q, kvs, kk, x, e1, e2, e3, np, e4, p2⟩ => by
    obtain ⟨xs, z, r⟩ := S2.toSim.tdv e2
    obtain ⟨u, hu, ru⟩ := (KP.val r).2 x e4
    obtain ⟨b, eb, hb⟩ := r2.keyT np e3
    refine ⟨q, u, (r1.tr t2).r (a := q) (by rw [e1]; exact asR_rf q), ?_, (k.tr (t1.trans t2)).at S2 ru p2⟩
    rw [eb, ← hu]
    exact DGet.tr z hb⟩
@[simp] def wTIn (K : PySem.W.Frag) (neg : Bool) (b a : WE) : WE := fun ρ h P => b ρ h fun y h1 => a ρ h1 fun d h2 => ∃ p kvs k, d = rf p ∧ tdv h2 p = some kvs ∧ keyT y = some k ∧ NP K ∧ P (.bool (if neg then !(valD kvs (pK k)).isSome else (valD kvs (pK k)).isSome)) h2
instance {td ty : TE} {a b : WE} [A : RE K XX td a] [B : RE K XX ty b] : RE K XX (tTIn ty td) (wTIn K false b a) := ⟨fun S E p k =>
  B.run S E p fun y yd H1 h1 t1 S1 r1 p1 => A.run S1 (E.tr t1) p1 fun v d H2 h2 t2 S2 r2 ⟨q, kvs, kk, e1, e2, e3, np, p2⟩ => by
    obtain ⟨xs, z, r⟩ := S2.toSim.tdv e2
    obtain ⟨b, eb, hb⟩ := (r1.tr t2).keyT np e3
    refine ⟨q, valV xs (pK kk), r2.r (a := q) (by rw [e1]; exact asR_rf q), ?_, ?_⟩
    · rw [eb]; exact DGet.tr z hb
    · rw [KP.someT r]; exact (k.tr (t1.trans t2)).at S2 (.bl _) p2⟩
instance {td ty : TE} {a b : WE} [A : RE K XX td a] [B : RE K XX ty b] : RE K XX (tTNotIn ty td) (wTIn K true b a) := ⟨fun S E p k =>
  B.run S E p fun y yd H1 h1 t1 S1 r1 p1 => A.run S1 (E.tr t1) p1 fun v d H2 h2 t2 S2 r2 ⟨q, kvs, kk, e1, e2, e3, np, p2⟩ => by
    obtain ⟨xs, z, r⟩ := S2.toSim.tdv e2
    obtain ⟨b, eb, hb⟩ := (r1.tr t2).keyT np e3
    refine ⟨q, valV xs (pK kk), r2.r (a := q) (by rw [e1]; exact asR_rf q), ?_, ?_⟩
    · rw [eb]; exact DGet.tr z hb
    · rw [KP.someT r]; exact (k.tr (t1.trans t2)).at S2 (.bl _) p2⟩
@[simp] def wTPut (K : PySem.W.Frag) (a b c : WE) : WS := fun E ρ h => c ρ h fun v h1 => a ρ h1 fun d h2 => b ρ h2 fun y h3 => ∃ p kvs k, d = rf p ∧ h3 p = some (.dT kvs) ∧ keyT y = some k ∧ NP K ∧ kvs.length < 100000 ∧ E.nx ρ (up h3 p (.dT (putD kvs (pK k) v)))
instance {td ty tv : TE} {a b c : WE} [A : RE K XX td a] [B : RE K XX ty b] [C : RE K XX tv c] : RS K XX (sTPut td ty tv) (wTPut K a b c) := ⟨fun {N σ H ρ h E D} S e p k =>
  C.run S e p fun v vd H1 h1 t1 S1 r1 p1 => A.run S1 (e.tr t1) p1 fun x d H2 h2 t2 S2 r2 p2 => B.run S2 (e.tr (t1.trans t2)) p2 fun y yd H3 h3 t3 S3 r3 ⟨q, kvs, kk, e1, e2, e3, np, l, p3⟩ => by
    obtain ⟨xs, z, r⟩ := S3.toSim.dT e2
    obtain ⟨b, eb, hb⟩ := r3.keyT np e3
    have hp : H3 q = none ∨ h3 q ≠ none := .inr (by rw [e2]; intro z; cases z)
    have t := (t1.trans t2).trans t3
    have t4 : Tr H3 h3 (L2.upd H3 q (.dT (L2.putK xs (pK kk) v))) (up h3 q (.dT (putD kvs (pK kk) vd))) := Tr.put hp
    refine ⟨q, _, (r2.tr t3).r (a := q) (by rw [e1]; exact asR_rf q), ?_, k.nx _ _ _ _ (t.trans t4) (S3.put hp (.dT (KP.put (r1.tr (t2.trans t3)) r))) (e.tr (t.trans t4)) p3⟩
    rw [eb]
    exact DPut.t z hb (sz_lt (by rw [KP.len r]; exact l))⟩
@[simp] def wTNew : WE := fun _ h P => ∀ p, h p = none → P (rf p) (up h p (.dT []))
instance : RE K XX tDNewT wTNew := ⟨fun {N σ H ρ h P Q} S E p k q hq => by
  have t : Tr H h (L2.upd H q (.dT [])) (up h q (.dT [])) := Tr.put (.inl hq)
  exact (k.tr t).at (S.put (.inl hq) (.dT .nil)) (.rf q) (p q (S.toSim.hn hq))⟩
/-- without a key -/
def dropD (kvs : List (List Key × PyData)) (k : List Key) : List (List Key × PyData) := kvs.filter fun kv => decide (kv.1 ≠ k)
theorem KP.drop {k : List Key} : ∀ {xs : List (List Key × V)} {ds : List (List Key × PyData)}, KP (List Key) K N H h xs ds → KP (List Key) K N H h (L2.dropK xs k) (dropD ds k)
  | _, _, .nil => .nil
  | (a, x) :: xs, (b, y) :: ds, .cons e r => by
    obtain ⟨e1, e2⟩ := e
    cases e1
    have ih := KP.drop (k := k) r
    unfold L2.dropK dropD at ih ⊢
    rw [List.filter_cons, List.filter_cons]
    by_cases c : a = k
    · rw [if_neg (by simp [c]), if_neg (by simp [c])]; exact ih
    · rw [if_pos (by simp [c]), if_pos (by simp [c])]; exact .cons ⟨rfl, e2⟩ ih
@[simp] def fPopT (K : PySem.W.Frag) (d : PyData) (ds : List PyData) (h : Lh) (P : Wv) : Prop := ∃ p y kvs k v, d = rf p ∧ ds = [y] ∧ h p = some (.dT kvs) ∧ keyT y = some k ∧ NP K ∧ valD kvs (pK k) = some v ∧ P v (up h p (.dT (dropD kvs (pK k))))
@[simp] def wPopT (K : PySem.W.Frag) (a : WE) (b : WA) : WE := fun ρ h P => a ρ h fun d h1 => (∃ p kvs, d = rf p ∧ h1 p = some (.dT kvs)) ∧ b ρ h1 fun es h2 => fPopT K d es h2 P
instance {ta : TE} {tb : TA} {a : WE} {b : WA} [A : RE K XX ta a] [B : RA K XX tb b] : RE K XX (tBM K "dict" rPopT1 ta tb) (wPopT K a b) := ⟨fun S E p k =>
  A.run S E p fun v d H1 h1 t1 S1 r1 ⟨⟨p1, kvs1, ed, e1⟩, p2⟩ => by
    have er := r1.r (a := p1) (by rw [ed]; exact asR_rf p1)
    obtain ⟨ks1, z1, _⟩ := S1.toSim.dT e1
    refine ⟨by rw [er]; exact .inr (.inr (.inl ⟨rfl, .inr ⟨ks1, z1⟩⟩)), B.run S1 (E.tr t1) p2 fun vs es H2 h2 t2 S2 r2 ⟨q, y, kvs, kk, u, e1, e0, e2, e3, np, e4, p⟩ => ?_⟩
    subst e0
    obtain ⟨yv, rfl, ry⟩ := r2.one
    obtain ⟨ks, z, kp⟩ := S2.toSim.dT e2
    obtain ⟨b, rfl, hb⟩ := ry.keyT np e3
    obtain ⟨w, hw, rw'⟩ := (KP.val kp).2 u e4
    have hp : H2 q = none ∨ h2 q ≠ none := .inr (by rw [e2]; intro z; cases z)
    have t : Tr H2 h2 (L2.upd H2 q (.dT (L2.dropK ks (pK kk)))) (up h2 q (.dT (dropD kvs (pK kk)))) := Tr.put hp
    exact ⟨q, ks, pK kk, b, w, r1.r (a := q) (by rw [e1]; exact asR_rf q), rfl, z, hb, hw, ((k.tr (t1.trans t2)).tr t).at (S2.put hp (.dT (KP.drop kp))) (rw'.tr t) p⟩⟩
@[simp] def fLenT (ds : List PyData) (h : Lh) (P : Wv) : Prop := ∃ p kvs, ds = [rf p] ∧ h p = some (.dT kvs) ∧ P (.int (kvs.length : Nat)) h
instance : RCW K rLenT fLenT := ⟨fun S r ⟨p, kvs, e, e2, q⟩ k => by
  subst e
  obtain ⟨v, rfl, i⟩ := r.one
  obtain ⟨xs, z, kp⟩ := S.toSim.dT e2
  refine ⟨p, xs, by rw [i.r (a := p) (asR_rf p)], z, ?_⟩
  rw [KP.len kp]
  exact k.at S (.int _) q⟩
/-! ### walks -/
@[simp] def wIKeysT (a : WE) : WI := fun ρ h P => a ρ h fun d h1 => ∃ p od xs kvs, d = rf p ∧ h1 p = some (.lkT od xs kvs) ∧ ∃ ks : List (Int × Int), kvs.map (·.1) = ks.map pK ∧ P (ks.map pD) (fun h3 => h3 p = some (.lkT od xs kvs)) h1
@[simp] def wLockT (a : WE) : WE := fun ρ h P => ∃ d kvs, h d = some (.dT kvs) ∧ ∀ od xs, a ρ (up h d (.lkT od xs kvs)) fun v h' => h' d = some (.lkT od xs kvs) ∧ P v (up h' d (.dT kvs))
theorem KP.keys {xs : List (List Key × V)} {kvs : List (List Key × PyData)} (r : KP (List Key) K N H h xs kvs) : xs.map (·.1) = kvs.map (·.1) := by
  induction r with
  | nil => rfl
  | cons a _ ih => rw [List.map_cons, List.map_cons, a.1, ih]
instance {td : TE} {a : WE} [A : RE K XX td a] : RI K XX (iKeysT td) (wIKeysT a) := ⟨fun {N σ H ρ h P R} S E p k => A.run S E p fun v d H1 h1 t1 S1 r1 ⟨q, od, xs, kvs, e, e2, ks, ek, p1⟩ => by
  have at3 : ∀ (N' : Addr → Prop) (H3 : Hp) (h3 : Lh), Sx K XX N' H3 h3 → h3 q = some (.lkT od xs kvs) → H3 q = some (.frz od (.dT xs)) ∧ KP (List Key) K N' H3 h3 xs kvs := fun N' H3 h3 S3 e3 => by
    obtain ⟨n, u, z, k3⟩ := S3.toSim.at_ q _ e3
    cases k3 with
    | lkT r => exact ⟨z, r⟩
  have hx := KP.keys (at3 _ _ _ S1 e2).2
  rw [ek] at hx
  have hl : xs.length = ks.length := by simpa using congrArg List.length hx
  refine ⟨q, od, r1.r (a := q) (by rw [e]; exact asR_rf q), .inr ⟨xs, (at3 _ _ _ S1 e2).1, k _ H1 h1 (ks.map pD) _ (fun H => H q = some (.frz od (.dT xs))) (fun i H x H' => H' = H ∧ ∃ (k : List Key) (v : V) (b : Addr), xs[i]? = some (k, v) ∧ x = .ref b ∧ H b = some (.tup (k.map L2.kV))) t1 S1 p1 (by
    rw [List.length_map, ← hl]; exact walk_keysT) (fun N' H3 h3 hN t3 S3 kp => (at3 _ _ _ S3 kp).1) fun N' i H3 h3 x H4 hN t3 S3 kp ⟨eH, k2, v2, b, h2, ex, hb⟩ => ?_⟩⟩
  subst ex eH
  have e5 : (xs.map (·.1))[i]? = some k2 := by rw [List.getElem?_map, h2]; rfl
  rw [hx, List.getElem?_map] at e5
  cases hk : ks[i]? with
  | none => rw [hk] at e5; cases e5
  | some x =>
    rw [hk] at e5
    have e6 : pK x = k2 := Option.some.inj e5
    subst e6
    exact ⟨pD x, by rw [List.getElem?_map, hk]; rfl, Tr.refl _ _, Ex.refl _, S3, .tup (.inl ⟨hb, S3.toSim.tupn hb, S3.toSim.nt hb⟩) (.cons (.int _) (.cons (.int _) .nil))⟩⟩
instance {te : TE} {a : WE} [A : RE K XX te a] : RE K XX (tLockT te) (wLockT a) := ⟨fun {N σ H ρ h P Q} S E ⟨d, kvs, e, p⟩ k => by
  obtain ⟨xs, z, r⟩ := S.toSim.dT e
  refine ⟨d, _, z, trivial, fun od => ?_⟩
  have hp : H d = none ∨ h d ≠ none := .inr (by rw [e]; intro z; cases z)
  have t : Tr H h (L2.upd H d (.frz od (.dT xs))) (up h d (.lkT od xs kvs)) := Tr.put hp
  refine A.run (S.put hp (.lkT r)) (E.tr t) (p od xs) fun v dd H1 h1 t1 S1 r1 ⟨e1, p1⟩ => ?_
  obtain ⟨n, u, z1, k1⟩ := S1.toSim.at_ d _ e1
  cases k1 with
  | lkT r2 =>
    have hp1 : H1 d = none ∨ h1 d ≠ none := .inr (by rw [e1]; intro z; cases z)
    have t2 : Tr H1 h1 (L2.upd H1 d (.dT xs)) (up h1 d (.dT kvs)) := Tr.put hp1
    exact ⟨z1, ((k.tr t).tr (t1.trans t2)).at (S1.put hp1 (.dT r2)) (r1.tr t2) p1⟩⟩
/-! ### sorted -/
theorem perm_lift {α β : Type} (f : α → β) : ∀ {zs ys : List β}, zs.Perm ys → ∀ ws : List α, ws.map f = ys → ∃ ws' : List α, ws'.Perm ws ∧ ws'.map f = zs := by
  intro zs ys h
  induction h with
  | nil => intro ws e; exact ⟨ws, .refl _, e⟩
  | cons x _ ih =>
    intro ws e
    match ws, e with
    | w :: ws, e =>
      rw [List.map_cons] at e
      obtain ⟨e1, e2⟩ := List.cons.inj e
      obtain ⟨ws', p, q⟩ := ih ws e2
      exact ⟨w :: ws', p.cons _, by rw [List.map_cons, q, e1]⟩
  | swap x y l =>
    intro ws e
    match ws, e with
    | a :: b :: ws, e =>
      simp only [List.map_cons, List.cons.injEq] at e
      obtain ⟨e1, e2, e3⟩ := e
      exact ⟨b :: a :: ws, .swap _ _ _, by simp only [List.map_cons]; rw [e1, e2, e3]⟩
  | trans _ _ ih1 ih2 =>
    intro ws e
    obtain ⟨w1, p1, q1⟩ := ih2 ws e
    obtain ⟨w2, p2, q2⟩ := ih1 w1 q1
    exact ⟨w2, p2.trans p1, q2⟩
theorem Rls.of {α : Type} {f : α → V} {g : α → PyData} : ∀ {l : List α}, (∀ x ∈ l, Rl K N H h (f x) (g x)) → Rls K N H h (l.map f) (l.map g)
  | [], _ => .nil
  | x :: l, p => .cons (p x (List.mem_cons_self ..)) (Rls.of fun y hy => p y (List.mem_cons_of_mem _ hy))
/-- the keys, sorted -/
@[simp] def fSortedT (ds : List PyData) (h : Lh) (P : List PyData → Lh → Prop) : Prop := ∃ p kvs, ∃ ks : List (Int × Int), ds = [rf p] ∧ h p = some (.dT kvs) ∧ kvs.map (·.1) = ks.map pK ∧
  ∀ L : List (Int × Int), L.Perm ks → L.Pairwise (fun x y => SrtO.lexB y x = false) → P (L.map pD) h
theorem isKeys_zip {H : Hp} : ∀ {kvs : List (List Key × V)} {bs : List Addr} {ks : List (Int × Int)}, IsKeys H kvs bs → kvs.map (·.1) = ks.map pK → ∃ ws : List (Addr × (Int × Int)), ws.map (·.1) = bs ∧ ws.map (·.2) = ks ∧ ∀ w ∈ ws, H w.1 = some (.tup [.int w.2.1, .int w.2.2])
  | _, _, [], .nil, _ => ⟨[], rfl, rfl, fun _ h => nomatch h⟩
  | _, _, _ :: _, .nil, e => by cases e
  | _ :: _, _, [], .cons _ _, e => by cases e
  | p :: kvs, b :: bs, k :: ks, .cons a r, e => by
    rw [List.map_cons, List.map_cons] at e
    obtain ⟨e1, e2⟩ := List.cons.inj e
    obtain ⟨ws, h1, h2, h3⟩ := isKeys_zip r e2
    refine ⟨(b, k) :: ws, by rw [List.map_cons, h1], by rw [List.map_cons, h2], fun w hw => ?_⟩
    rcases List.mem_cons.mp hw with rfl | hw
    · rw [e1] at a; exact a
    · exact h3 w hw
instance : RCN K rSortedDT fSortedT := ⟨fun {XX N H h xs ds P Q} S r ⟨p, kvs, ks, e1, e2, e3, q⟩ k => by
  subst e1
  obtain ⟨v, rfl, i⟩ := r.one
  obtain ⟨kv, z, kp⟩ := S.toSim.dT e2
  have ek : kv.map (·.1) = ks.map pK := by rw [KP.keys kp]; exact e3
  refine ⟨p, kv, by rw [i.r (a := p) (asR_rf p)], .inl z, fun x hx => ?_, fun bs ys l kb pm pw hn => ?_⟩
  · have : x.1 ∈ kv.map (·.1) := List.mem_map.mpr ⟨x, hx, rfl⟩
    rw [ek] at this
    obtain ⟨y, _, ey⟩ := List.mem_map.mp this
    exact ⟨y.1, y.2, ey.symm⟩
  · obtain ⟨ws, w1, w2, w3⟩ := isKeys_zip kb ek
    obtain ⟨ws', p1, p2⟩ := perm_lift (·.1) pm ws w1
    have w3' : ∀ w ∈ ws', H w.1 = some (.tup [.int w.2.1, .int w.2.2]) := fun w hw => w3 w (p1.mem_iff.mp hw)
    have ka : ∀ w ∈ ws', kA H w.1 = w.2 := fun w hw => by unfold kA; rw [w3' w hw]
    have pw' : (ws'.map (·.2)).Pairwise (fun x y => SrtO.lexB y x = false) := by
      rw [← p2] at pw
      have := List.pairwise_map.mp pw
      refine List.pairwise_map.mpr (List.Pairwise.imp_of_mem (fun {a b} ha hb h => ?_) this)
      rw [ka a ha, ka b hb] at h
      exact h
    have := q (ws'.map (·.2)) (by rw [← w2]; exact p1.map _) pw'
    rw [List.map_map] at this
    have rl : Rls K N H h (ys.map V.ref) (ws'.map (pD ∘ fun x => x.2)) := by
      rw [← p2, List.map_map]
      exact Rls.of fun w hw => .tup (.inl ⟨w3' w hw, S.toSim.tupn (w3' w hw), S.toSim.nt (w3' w hw)⟩) (.cons (.int _) (.cons (.int _) .nil))
    exact k.new S hn rl this⟩
/-- pairs with different ints in front, sorted -/
@[simp] def fSortedF (ds : List PyData) (h : Lh) (P : List PyData → Lh → Prop) : Prop := ∃ d, ∃ ps : List (Int × PyData), ds = [d] ∧ Wl.lv h d = some (ps.map fun x => .tuple [.int x.1, x.2]) ∧ (ps.map (·.1)).Nodup ∧
  ∀ L : List (Int × PyData), L.Perm ps → L.Pairwise (fun x y => x.1 < y.1) → P (L.map fun x => .tuple [.int x.1, x.2]) h
theorem Rls.zip2 : ∀ {vs : List V} {ps : List (Int × PyData)}, Rls K N H h vs (ps.map fun x => .tuple [.int x.1, x.2]) → ∃ ws : List (V × Int × PyData), ws.map (·.1) = vs ∧ ws.map (·.2) = ps ∧ ∀ w ∈ ws, Rl K N H h w.1 (.tuple [.int w.2.1, w.2.2])
  | _, [], .nil => ⟨[], rfl, rfl, fun _ h => nomatch h⟩
  | v :: vs, p :: ps, .cons a r => by
    obtain ⟨ws, h1, h2, h3⟩ := Rls.zip2 r
    refine ⟨(v, p) :: ws, by rw [List.map_cons, h1], by rw [List.map_cons, h2], fun w hw => ?_⟩
    rcases List.mem_cons.mp hw with rfl | hw
    · exact a
    · exact h3 w hw
instance : RCN K (rSortedF K) fSortedF := ⟨fun {XX N H h xs ds P Q} S r ⟨d, ps, e, e2, nd, q⟩ k => by
  subst e
  obtain ⟨v, rfl, i⟩ := r.one
  obtain ⟨a, vs, rfl, sq, rr⟩ := i.lv S e2
  obtain ⟨ws, w1, w2, w3⟩ := rr.zip2
  have e3 : (ws.map fun w => (w.1, w.2.1)).map (·.1) = vs := by rw [List.map_map]; exact w1
  have e4 : (ws.map fun w => (w.1, w.2.1)).map (·.2) = ps.map (·.1) := by rw [List.map_map, ← w2, List.map_map]; rfl
  refine ⟨a, ws.map fun w => (w.1, w.2.1), rfl, by rw [e3]; exact sq, fun z hz => ?_, by rw [e4]; exact nd, fun zs p pm pw hn => ?_⟩
  · obtain ⟨w, hw, rfl⟩ := List.mem_map.mp hz
    have := w3 w hw
    cases hq : w.1 with
    | ref t =>
      rw [hq] at this
      cases this with
      | tup h1 h2 =>
        cases h2 with
        | cons a1 r2 => cases r2 with
          | cons b1 r3 =>
            cases r3
            have ea := a1.i
            subst ea
            rcases h1 with h1 | h1
            · exact ⟨t, _, rfl, .inl (.inl h1.1)⟩
            · exact ⟨t, _, rfl, .inr h1⟩
    | _ => rw [hq] at this; cases this
  · obtain ⟨ws', p1, p2⟩ := perm_lift (fun w : V × Int × PyData => (w.1, w.2.1)) pm ws rfl
    have w3' : ∀ w ∈ ws', Rl K N H h w.1 (.tuple [.int w.2.1, w.2.2]) := fun w hw => w3 w (p1.mem_iff.mp hw)
    have nd' : (ws'.map fun w => w.2.1).Nodup := by
      have : (ws.map fun w => w.2.1) = ps.map (·.1) := by rw [← w2, List.map_map]; rfl
      rw [← this] at nd
      exact (p1.map _).nodup_iff.mpr nd
    have pw' : (ws'.map (·.2)).Pairwise (fun x y => x.1 < y.1) := by
      rw [← p2] at pw
      have h1 := List.pairwise_map.mp pw
      have h2 := List.pairwise_map.mp nd'
      refine List.pairwise_map.mpr ((h1.and h2).imp fun {a b} h => ?_)
      have := h.1
      have n := h.2
      simp only at this
      omega
    have := q (ws'.map (·.2)) (by rw [← w2]; exact p1.map _) pw'
    rw [List.map_map] at this
    have rl : Rls K N H h (zs.map (·.1)) (ws'.map ((fun x : Int × PyData => PyData.tuple [.int x.1, x.2]) ∘ fun x => x.2)) := by
      rw [← p2, List.map_map]
      exact Rls.of w3'
    exact k.new S hn rl this⟩
@[simp] def wLenSet (a : WE) : WE := fun ρ h P => a ρ h fun d h1 => ∃ ns : List Int, Wl.lv h1 d = some (ns.map PyData.int) ∧ ns.Nodup ∧ ns.length ≤ 4000 ∧ P (.int (ns.length : Nat)) h1
instance {ta : TE} {a : WE} [A : RE K XX ta a] : RE K XX (RZ.tLenSetI K ta) (wLenSet a) := ⟨fun S E p k => A.run S E p fun v d H1 h1 t1 S1 r1 ⟨ns, e, nd, l, p1⟩ => by
  obtain ⟨a, xs, rfl, t, rr⟩ := r1.lv S1 e
  cases rr.ofInts
  exact ⟨a, ns, rfl, t, nd, l, (k.tr t1).at S1 (.int _) p1⟩⟩
end
end Wl
set_option Elab.async false
set_option linter.all false
set_option maxRecDepth 100000
set_option maxHeartbeats 1000000
/-! Wu: whether a pair of ints is among the text's constants. -/
namespace Wl
open PySem PySem.Spec PyProof.Rows L2 Evl Pd
def pairI : List Value → Bool
  | [.int _ _, .int _ _] => true
  | _ => false
def npB (K : PySem.W.Frag) : Bool := K.all fun p => match p.2.data with
  | .seq its _ => !pairI its.toList
  | _ => true
theorem lookup_mem : ∀ {K : PySem.W.Frag} {a : Addr} {o : Obj}, K.lookup a = some o → (a, o) ∈ K
  | [], _, _, h => by cases h
  | (b, u) :: K, a, o, h => by
    rw [List.lookup_cons] at h
    cases e : (a == b) with
    | true =>
      rw [e] at h
      have hb : a = b := eq_of_beq e
      cases h
      rw [hb]
      exact List.mem_cons_self ..
    | false =>
      rw [e] at h
      exact List.mem_cons_of_mem _ (lookup_mem h)
theorem np_of {K : PySem.W.Frag} (h : npB K = true) : NP K := by
  rintro a i j ⟨o, its, n, e1, _, e3, _, e5⟩
  unfold npB at h
  rw [List.all_eq_true] at h
  have := h _ (lookup_mem e1)
  simp only [e3] at this
  generalize its.toList = us at e5 this
  cases e5 with
  | cons r1 t1 =>
    cases t1 with
    | cons r2 t2 =>
      cases t2
      obtain ⟨t, rfl⟩ := r1
      obtain ⟨t', rfl⟩ := r2
      cases this
end Wl
set_option Elab.async false
set_option linter.all false
set_option maxRecDepth 100000
set_option maxHeartbeats 4000000
/-! Sl: xs[a:] = ys. No law, no program. -/
namespace L2
open PySem PySem.Spec PyProof.Rows
section
variable {prog : Program} {w : World} {A : Around} {E : Value → Shared → Prop} {s : Shared}
theorem bounds_run0 {a n : Nat} (hac : a ≤ n) : sliceBounds (some (a : Int)) none none n = ((a : Int), (n : Int), 1) := by
  simp only [sliceBounds, Option.getD_none]
  have h1 : ¬ ((a : Int) < 0) := by omega
  simp only [h1, if_false, show (1 : Int) > 0 by decide, if_true]
  congr 1
  omega
set_option maxRecDepth 100000 in
theorem setItem_slice0 {l b sl : Addr} {items new : Array Value} {n n2 : Nat} {vl : Value} {a : Nat} {Q : Unit → Shared → Prop}
    (e : s.heap.get? l = some { cls := .type "list", data := .seq items n }) (e2 : s.heap.get? b = some { cls := .type "list", data := .seq new n2 }) (hne : l ≠ b)
    (hs : s.heap.IsSliceOf sl vl .none .none) (pl : IsPart vl (some (a : Int))) (hac : a ≤ items.size)
    (hsz : items.size + new.size ≤ sizeLine) (h : Q () { s with heap := s.heap.update l (Obj.mapSeq fun xs => xs.extract 0 a ++ new ++ xs.extract items.size xs.size) }) :
    wpAny (model prog w) A (setItem (.ref l) (.ref sl) (.ref b)) Q E s := by
  have hl : s.heap.IsList l items := PySem.IsL.isList e
  have hb : s.heap.IsList b new := PySem.IsL.isList e2
  obtain ⟨os, hos, hcs, hds⟩ := id hs
  have hTs : s.TypeIs (.ref sl) "slice" := ⟨os, hos, hcs⟩
  have hstep : ¬ ((rawPart none == rawInt 0) = true) := Bool.false_ne_true
  have hsame : Builtin.List.listSameRef (.ref l) (.ref b) = false := by
    unfold Builtin.List.listSameRef
    exact beq_eq_false_iff_ne.mpr hne
  have hmax : (max (a : Int) (items.size : Int)).toNat = items.size := by omega
  have hz' : ((fun xs : Array Value => xs.extract 0 a ++ new ++ xs.extract items.size xs.size) items).size ≤ sizeLine + 1 := by
    simp only [Array.size_append, Array.size_extract]
    omega
  unfold setItem
  try with_reducible refine wpAny_holding ?_
  first | refine wpAny_bind (wpAny_pure ?_) | skip
  refine wpAny_bind (wpAny_sequenceKey hl.typeIs (by decide) ?_)
  refine wpAny_bind (wpAny_callSpecial?_slot (name := Str.ofString "__setitem__") hl.typeIs slot_list_setitem
    (wpAny_call_entry slot_list_setitem hl.typeIs entry_list_setitem ?_ (args_list_setitem _ _ _)))
  show wpAny _ _ (Builtin.List.listSubscript? (.ref sl) >>= _) _ _ s
  refine wpAny_bind ?_
  unfold Builtin.List.listSubscript?
  refine wpAny_bind (wpAny_specialOf hTs slice_no_index ?_)
  simp only [Option.isNone_none, if_true]
  refine wpAny_pure ?_
  show wpAny _ _ (typeOf (.ref sl) >>= _) _ _ s
  refine wpAny_bind (wpAny_typeOf hTs ?_)
  first
    | rw [if_neg (by decide)]
    | refine PySem.W.KFB.if_not (by decide) ?_
  rw [listSliceParts_eq]
  refine wpAny_bind (wpAny_bind (wpAny_field hos hds (x := .none) rfl (wpAny_bind (wpAny_listPart .none ?_))))
  rw [if_neg hstep]
  refine wpAny_bind (wpAny_field hos hds (x := vl) rfl (wpAny_bind (wpAny_listPart pl ?_)))
  refine wpAny_bind (wpAny_field hos hds (x := .none) rfl (wpAny_bind (wpAny_listPart .none (wpAny_pure ?_))))
  first
    | simp only [hsame, Bool.false_eq_true, if_false]
    | refine PySem.W.KFB.if_not hsame ?_
    | (dsimp only
       rw [if_neg (by rw [hsame]; exact Bool.false_ne_true)])
  refine wpAny_bind (m := Builtin.List.listAllItems (.ref b) "must assign iterable to extended slice") ?_
  unfold Builtin.List.listAllItems
  refine wpAny_bind (wpAny_typeOf hb.typeIs ?_)
  first
    | refine PySem.W.KFB.if_so (by decide) ?_
    | rw [if_pos (by decide)]
    | simp only [beq_self_eq_true, Bool.true_or, if_true]
  unfold Builtin.List.listItems
  refine wpAny_bind (wpAny_seqItems e2 rfl (wpAny_pure ?_))
  refine wpAny_bind (wpAny_bind (wpAny_seqItems e rfl (wpAny_pure ?_)))
  refine wpAny_bind (wpAny_of_eq ((sliceIndices_raw (some (a : Int)) none none items.size (by simp)).trans (congrArg (pure : Int × Int × Int → Sem (Int × Int × Int)) (bounds_run0 hac))) ?_)
  show wpAny _ _ (if ((1 : Int) == 1) = true then _ else _) _ _ s
  rw [if_pos (by decide)]
  refine wpAny_bind (wpAny_rule ?_)
  first
    | simp only [notLongL hsz, Bool.false_eq_true, if_false]
    | refine PySem.W.KFB.if_not (notLongL hsz) ?_
  first | refine wpAny_bind (wpAny_pure ?_) | skip
  show wpAny _ _ (updateSeq l (fun xs => xs.extract 0 ((a : Int)).toNat ++ new ++ xs.extract (max (a : Int) (items.size : Int)).toNat xs.size) >>= _) _ _ s
  rw [hmax, Int.toNat_natCast]
  refine wpAny_bind (wpAny_updateSeq (hz := Nat.le_trans (Nat.le_add_right _ _) hsz) (_hz' := hz') e rfl ?_)
  refine wpAny_bind (wpAny_letGo ?_)
  first
    | exact wpAny_bind (wpAny_pure (wpAny_pure ⟨.none, rfl, wpAny_pure h⟩))
    | exact wpAny_pure ⟨.none, rfl, wpAny_pure h⟩
end
section
variable {X : Cx}
theorem set_slice0 {pins : List (Addr × Obj)} {s : Shared} {σ : St} {H : Hp} {l b sl : Addr} {xs ys : List V} {a : Nat} {vl : Value} {Q : Unit → Shared → Prop} (I : Inv X pins σ H s)
    (hH : H l = some (.lst xs)) (hB : H b = some (.lst ys)) (hne : l ≠ b) (hs : s.heap.IsSliceOf sl vl .none .none) (pl : IsPart vl (some (a : Int))) (hac : a ≤ xs.length)
    (hz : xs.length + ys.length ≤ sizeLine) (h : ∀ s', Inv X pins σ (upd H l (.lst (xs.take a ++ ys))) s' → Q () s') :
    wpAny (model X.prog X.w) X.A (setItem (.ref l) (.ref sl) (.ref b)) Q X.xe s := by
  obtain ⟨z, its, n, r, hl, e⟩ := I.lstM hH
  obtain ⟨z2, its2, n2, r2, hl2, e2⟩ := I.lstM hB
  refine setItem_slice0 (a := a) e e2 hne hs pl (by rw [List.size_toArray, ← hl]; exact hac) (by rw [List.size_toArray, List.size_toArray]; omega) (h _ ?_)
  refine I.lset (its' := its.take a ++ its2) (t' := s.toks) hH e ?_ (Vals.append (r.take _) r2) ?_
  · have := splice_eq its its2 a its.toArray.size
    simp only [List.size_toArray, List.drop_length, List.append_nil] at this
    simpa using this
  · rw [List.length_append, List.length_take]
    omega
/-- o[a:] = .., of a list -/
def gSl0 (to tl : TE) : TG := fun v σ H Q => to σ H fun x H1 => tPart tl σ H1 fun o H2 => ∃ (a : Nat) (l : Addr) (xs : List V) (b : Addr) (ys : List V), o = some (a : Int) ∧ x = .ref l ∧ v = .ref b ∧ H2 l = some (.lst xs) ∧ H2 b = some (.lst ys) ∧ l ≠ b ∧ a ≤ xs.length ∧ xs.length + ys.length ≤ sizeLine ∧ Q σ (upd H2 l (.lst (xs.take a ++ ys)))
theorem pg_sl0 {o lo : Expr} {to tl : TE} {pos p2 : Pos} (ho : PE X o to) (hl : PE X lo tl)
    (ha : ∀ v, assign (.Subscript o (.Slice (some lo) none none p2) pos) X.env v = (do
      let ov ← holding [v] (eval o X.env)
      let iv ← holding [v, ov] (eval (.Slice (some lo) none none p2) X.env)
      standAt pos
      holding [v, ov, iv] (setItem ov iv v)
      release [iv, v, ov] []) := by intro _; rfl) : PG X (.Subscript o (.Slice (some lo) none none p2) pos) (gSl0 to tl) := by
  refine ⟨fun pins s σ H v u Q I r h => ?_⟩
  rw [ha]
  refine wpAny_bind (wpAny_holding (thn (ho.run pins s σ H _ I h) fun ov s1 ⟨x, H1, I1, r1, q1⟩ => ?_))
  refine wpAny_bind (wpAny_holding ?_)
  have pl := po_some hl
  refine wpAny_Slice (thn (pl.run pins s1 σ H1 _ I1 q1) fun vl s2 ⟨lo', H2, I2, pl2, a, l, xs, b, ys, e0, e1, e2, hH, hB, hne, hac, hz, q2⟩ => ?_)
  subst e0 e1 e2
  cases r1
  cases r
  rw [evalPart_none]
  refine wpAny_pure ?_
  refine wpAny_pure ?_
  have I4 : Inv X pins σ H2 { s2 with heap := s2.heap.push { cls := .type "slice", data := .fields #[vl, .none, .none] } } := I2.kept (t' := s2.toks) fun b ob q => Heap.get?_push_of_some _ q
  refine wpAny_bind (wpAny_standAt (wpAny_bind (wpAny_holding (set_slice0 I4 hH hB hne (Heap.IsSliceOf.new ..) pl2 hac hz fun s3 I3 => ?_))))
  exact wpAny_release ⟨σ, _, I3, q2⟩
end
end L2
set_option Elab.async false
set_option linter.all false
set_option maxRecDepth 100000
set_option maxHeartbeats 4000000
/-! Wv: xs[a:] = ys; a list taken apart; list(range(a, b)); max of a list; several except clauses. -/
namespace Wl
open PySem PySem.Spec PyProof.Rows L2 Evl Pd
section
variable {K : PySem.W.Frag} {XX : XP} {N : Addr → Prop} {H : Hp} {h : Lh}
@[simp] def wGSl0 (a b : WE) : WG := fun d ρ h P => a ρ h fun x h1 => b ρ h1 fun y h2 => ∃ (n : Nat) (p : Addr) (ds es : List PyData), y = .int (n : Int) ∧ x = rf p ∧ d = .list es ∧ h2 p = some (.lst ds) ∧ n ≤ ds.length ∧ ds.length + es.length ≤ 100000 ∧ P ρ (up h2 p (.lst (ds.take n ++ es)))
instance {ta tb : TE} {a b : WE} [A : RE K XX ta a] [B : RE K XX tb b] : RG K XX (gSl0 ta tb) (wGSl0 a b) := ⟨fun {N v d σ H ρ h P Q} S E r p k =>
  A.run S E p fun o od H1 h1 t1 S1 r1 p1 => B.run S1 (E.tr t1) p1 fun i id H2 h2 t2 S2 r2 ⟨n, q, ds, es, e0, e1, e2, e3, l1, l2, p2⟩ => by
    subst e0 e2
    obtain ⟨xs, z, rs⟩ := Rl.lvH S2 e3
    have r' := r.tr (t1.trans t2)
    cases r' with
    | @lst b ys _ h3 rs2 =>
      obtain ⟨hb, hn, _⟩ := h3
      have ne : q ≠ b := fun z2 => by subst z2; rw [e3] at hn; cases hn
      have hp : H2 q = none ∨ h2 q ≠ none := .inr (by rw [e3]; intro z; cases z)
      have t := t1.trans t2
      have t3 : Tr H2 h2 (L2.upd H2 q (.lst (xs.take n ++ ys))) (up h2 q (.lst (ds.take n ++ es))) := Tr.put hp
      refine ⟨(n : Int), r2.i, n, q, xs, b, ys, rfl, (r1.tr t2).r (a := q) (by rw [e1]; exact asR_rf q), rfl, z, hb, ne, by rw [rs.length]; exact l1, ?_, k _ _ _ _ (t.trans t3) (S2.put hp (.lst (Rls.append (rs.take n) rs2))) (E.tr (t.trans t3)) p2⟩
      rw [rs.length, rs2.length]
      exact sz_of l2⟩
@[simp] def wGLst (n : Nat) (b : WGs) : WG := fun d ρ h P => ∃ ds, lv h d = some ds ∧ ds.length = n ∧ b ds ρ h P
instance {tb : TGs} {b : WGs} {n : Nat} [B : RGs K XX tb b] : RG K XX (gLst K n tb) (wGLst n b) := ⟨fun S E r ⟨ds, e, l, p⟩ k => by
  obtain ⟨a, xs, rfl, t, rs⟩ := r.lv S e
  exact ⟨a, xs, rfl, t, by rw [rs.length]; exact l, B.run S E rs p k⟩⟩
@[simp] def fMaxL (ds : List PyData) (h : Lh) (P : Wv) : Prop := ∃ (d : PyData) (ns : List Int), ds = [d] ∧ Wl.lv h d = some (ns.map PyData.int) ∧ 0 < ns.length ∧ ∀ m, m ∈ ns → (∀ y, y ∈ ns → y ≤ m) → P (.int m) h
instance : RCW K (rMax K) fMaxL := ⟨fun S r ⟨d, ns, e, l, l0, p⟩ k => by
  subst e
  obtain ⟨v, rfl, rv⟩ := r.one
  obtain ⟨a, xs, rfl, t, rr⟩ := rv.lv S l
  cases rr.ofInts
  exact ⟨a, ns, rfl, t, l0, fun m h1 h2 => k.at S (.int _) (p m h1 h2)⟩⟩
@[simp] def wLstRg2 (a b : WE) : WA := fun ρ h P => a ρ h fun x h1 => b ρ h1 fun y h2 => ∃ i j : Int, x = .int i ∧ y = .int j ∧ -16777216 ≤ i ∧ i ≤ 16777216 ∧ -16777216 ≤ j ∧ j ≤ 16777216 ∧ j - i ≤ 16777216 ∧ P (rgD i j) h2
theorem rgRls (i j : Int) : Rls K N H h (rgV i j) (rgD i j) := by
  unfold rgV rgD
  generalize List.range (j - i).toNat = l
  induction l with
  | nil => exact .nil
  | cons a l ih => exact .cons (.int _) ih
instance {ta tb : TE} {a b : WE} [A : RE K XX ta a] [B : RE K XX tb b] : RN K XX (tLstRg (tRg2 ta tb)) (wLstRg2 a b) := ⟨fun {N σ H ρ h P Q} S E p k =>
  A.run S E p fun v d H1 h1 t1 S1 r1 p1 => B.run S1 (E.tr t1) p1 fun u e H2 h2 t2 S2 r2 ⟨i, j, e1, e2, b1, b2, b3, b4, b5, p2⟩ => by
    subst e1 e2
    exact ⟨i, j, (r1.tr t2).i, r2.i, ⟨by omega, by omega, by omega, by omega, by omega⟩, fun q hq => (k.tr (t1.trans t2)).new S2 hq (rgRls i j) p2⟩⟩
theorem k_maxL {X : Cx} {K : PySem.W.Frag} (hK : X.K = K) (hc : X.calm = true) : CallR X (.builtin "max") (rMax K) := by subst hK; exact cr_max hc
/-! ### several except clauses -/
def tTryM (K : PySem.W.Frag) (tb : WX → TS) (l : List (Value × (Addr → Value → Option Addr → TS))) (Wout : WX) : TS := fun D σ H => tb (wMany K Wout D l) D σ H
theorem k_tryM {X : Cx} {K : PySem.W.Frag} (hK : X.K = K) {body : List Stmt} {h₀ : ExceptHandler} {hds : List ExceptHandler} {l : List (Value × (Addr → Value → Option Addr → TS))} {pos : Pos} {tb : WX → TS} {Wout : WX} (hs : X.stack = X.env :: X.outer) (hf : X.env.frame = some X.env.locals) (tk : Takes X Wout)
    (hb : ∀ (W : WX) (pn : List (Addr × Obj)) (xe : Value → Shared → Prop), Takes (X.tr pn xe) W → PassesOwn (model X.prog X.w) X.A X.env xe → PSs (X.tr pn xe) body (tb W))
    (hh : HdsOk X (h₀ :: hds) l) : PS X (.Try body (h₀ :: hds) [] [] pos) (tTryM K tb l Wout) := by subst hK; exact ps_try_many hs hf tk hb hh
abbrev WHs := List (Value × WS)
class RH (K : PySem.W.Frag) (XX : XP) (l : List (Value × (Addr → Value → Option Addr → TS))) (w : outParam WHs) : Prop where
  run : Paired (fun (p : Value × (Addr → Value → Option Addr → TS)) (q : Value × WS) => p.1 = q.1 ∧ ∀ a cls d, RS K XX (p.2 a cls d) q.2) l w
instance : RH K XX [] [] := ⟨.nil⟩
instance {c : Value} {ts : Addr → Value → Option Addr → TS} {ws : WS} {l : List (Value × (Addr → Value → Option Addr → TS))} {w : WHs} [A : ∀ a cls d, RS K XX (ts a cls d) ws] [B : RH K XX l w] : RH K XX ((c, ts) :: l) ((c, ws) :: w) := ⟨.cons ⟨rfl, fun a cls d => A a cls d⟩ B.run⟩
/-- what the clauses do with an exception -/
def xMany (K : PySem.W.Frag) (E : WEnds) : WHs → Ev' → XB
  | [] => fun _ _ _ _ => False
  | (c, ws) :: r => fun ρ C fs h => ∃ b, PySem.W.exmOne K (.ref C) c = some b ∧ wCond b (ws E ρ h) (xMany K E r ρ C fs h)
@[simp] def wTryM (wb : (Ev' → XB) → WS) (w : WHs) (K : PySem.W.Frag) : WS := fun E ρ h => wb (xMany K E w) E ρ h
theorem rs_tryM {tb : WX → TS} {l : List (Value × (Addr → Value → Option Addr → TS))} {wb : (Ev' → XB) → WS} {w : WHs} (B : ∀ (W : WX) (X : Ev' → XB), RS K ⟨L2.WE W, X⟩ (tb W) (wb X)) [U : RH K XX l w] :
    RS K XX (tTryM K tb l (fun _ _ _ _ => False)) (wTryM wb w K) := ⟨fun {N σ H ρ h E D} S e p k => by
  refine (B (wMany K (fun _ _ _ _ => False) D l) (xMany K E w)).run ⟨S.toSim, fun σ' ρ' C d fs H' h' t S' e' xr cond => ?_⟩ e p
    ⟨fun σ' ρ' H' h' t S' => k.nx σ' ρ' H' h' t (S.to t S'.toSim), fun v d H' h' t S' => k.rt v d H' h' t (S.to t S'.toSim), fun σ' ρ' H' h' t S' => k.bk σ' ρ' H' h' t (S.to t S'.toSim), fun σ' ρ' H' h' t S' => k.ct σ' ρ' H' h' t (S.to t S'.toSim)⟩
  have go : ∀ {l : List (Value × (Addr → Value → Option Addr → TS))} {w : WHs}, Paired (fun (p : Value × (Addr → Value → Option Addr → TS)) (q : Value × WS) => p.1 = q.1 ∧ ∀ a cls d, RS K XX (p.2 a cls d) q.2) l w → xMany K E w ρ' C fs h' → wMany K (fun _ _ _ _ => False) D l (.ref C) d σ' H' := by
    intro l w q
    induction q with
    | nil => intro c; exact c.elim
    | @cons p q l w a _ ih =>
      obtain ⟨c, ts⟩ := p
      obtain ⟨c', ws⟩ := q
      obtain ⟨rfl, a⟩ := a
      rintro ⟨b, eb, cond⟩
      exact ⟨b, eb, fun hb a2 ha => (a a2 (.ref C) d).run (S.to t S') e' (cond.1 hb) (k.tr t), fun hb => ih (cond.2 hb)⟩
  exact go U.run cond⟩
end
end Wl
set_option Elab.async false
set_option linter.all false
set_option maxRecDepth 100000
set_option maxHeartbeats 4000000
namespace Wl
open PySem PySem.Spec PyProof.Rows L2 Evl Pd
/-! ### methods called within try -/
def tMethT (C : Addr) (m : Str) (sp : Sp) (E : L2.St → XK) (ta : TE) (t : TA) : TE := fun σ H Q => ta σ H fun x H1 => ∃ a dx fs, x = .ref a ∧ H1 a = some (.ins C dx fs) ∧ fs.lookup m = none ∧ t σ H1 fun vs H2 => sp (x :: vs) H2 Q (E σ)
section
variable {X : Cx} {k : Nat} {ps : List Str} {sp : Sp} {m : Str} {pos apos : Pos} {e o : Expr} {es : List Expr} {t : TA} {ta : TE} {C : Addr}
theorem pe_calMS {W : WX} {pl : Sem Bool} (M : CalM X.prog X.w X.K X.mg X.base (L2.CX X.prog X.w) k C m ps sp) (c : Cls X.K C) (hr : Room k X.A) (tk : Takes X W) (he : PE X o ta) (ha : PA X (e :: es) t)
    (hst : starEach (e :: es) X.env = (false, eval e X.env) :: starEach es X.env := by rfl) (hpl : (backTo pos (starEach es X.env)).any (·.1) = false := by rfl)
    (ht : eval (.Call (.Attribute o m apos) (e :: es) [] pos) X.env = (do
      let ov ← eval o X.env
      standAt apos.atName
      let (f, first) ← holding [ov] (getMethod ov m pl)
      callWith pos f first (backTo pos (starEach (e :: es) X.env)) (backToKw pos (keywordEach [] X.env))) := by rfl) :
    PE X (.Call (.Attribute o m apos) (e :: es) [] pos) (tMethT C m sp (L2.WE W) ta t) := by
  obtain ⟨f, fd, hm, hb, F⟩ := M.ex
  refine ⟨fun pins s σ H Q I h => ?_⟩
  refine PySem.W.methodCall_KW (pl := pl) (thn (he.run pins s σ H _ I h) fun u s1 ⟨x, H1, I1, rx, a, dx, fs, ex, ea, l, q⟩ => ?_) ht
  subst ex
  obtain rfl : u = Value.ref a := rx
  refine getmeth_ok I1 ea c hm l ?_
  refine PySem.W.callWith_K (first := [.ref a]) (h₀ := X.base) I.ok.mod.kin hm.kp (thn (ha.run pos pins s1 σ H1 _ I1 q) fun us s2 ⟨vs, H2, I2, r, q2⟩ => ⟨I2.kIn, ?_⟩) hst hpl
  exact run_fnS (us := .ref a :: us) (vs := .ref a :: vs) F hr hb (passAt tk σ) I2 (.cons rfl r) q2
end
section
variable {K : PySem.W.Frag} {XX : XP} {N : Addr → Prop} {H : Hp} {h : Lh}
instance (priority := high) {D : List PyData → Lh → Wv → Prop} {C : Addr} {m : Str} {E : L2.St → XK} {ta : TE} {tb : TA} {a : WE} {b : WA} [A : RE K XX ta a] [B : RA K XX tb b] : RE K XX (tMethT C m (SpX K fun ds h P _ => D ds h P) E ta tb) (wMethW C m D a b) := ⟨fun {N σ H ρ h P Q} S E0 p k =>
  A.run S E0 p fun v d H1 h1 t1 S1 r1 ⟨q, fs, e, e2, e3, p1⟩ => by
    obtain ⟨dx, xs, z, pr⟩ := Rl.insH S1 e2
    have ev := r1.r (a := q) (by rw [e]; exact asR_rf q)
    exact ⟨q, dx, xs, ev, z, (Paired.lookup pr).1 e3, B.run S1 (E0.tr t1) p1 fun vs ds H2 h2 t2 S2 r2 p2 => ⟨N, h2, d :: ds, P, _, Sx.noX S2.toSim, .cons (r1.tr t2) r2, p2, (k.tr (t1.trans t2)).in S2⟩⟩⟩
instance {D : DX} {C : Addr} {m : Str} {E : L2.St → XK} {X : Ev' → Addr → List (Str × PyData) → Lh → Prop} {ta : TE} {tb : TA} {a : WE} {b : WA} [A : RE K ⟨E, X⟩ ta a] [B : RA K ⟨E, X⟩ tb b] : RE K ⟨E, X⟩ (tMethT C m (SpX K D) E ta tb) (wMeth C m D X a b) := ⟨fun {N σ H ρ h P Q} S E0 p k =>
  A.run S E0 p fun v d H1 h1 t1 S1 r1 ⟨q, fs, e, e2, e3, p1⟩ => by
    obtain ⟨dx, xs, z, pr⟩ := Rl.insH S1 e2
    have ev := r1.r (a := q) (by rw [e]; exact asR_rf q)
    exact ⟨q, dx, xs, ev, z, (Paired.lookup pr).1 e3, B.run S1 (E0.tr t1) p1 fun vs ds H2 h2 t2 S2 r2 p2 => ⟨N, h2, d :: ds, P, X ρ, S2.call (E0.tr (t1.trans t2)), .cons (r1.tr t2) r2, p2, (k.tr (t1.trans t2)).in S2⟩⟩⟩
end
end Wl
set_option Elab.async false
set_option linter.all false
set_option maxRecDepth 100000
set_option maxHeartbeats 4000000
/-! Wy: in of a dict whose keys are tuples of ints, for tuples of one or two ints; in of a list of data. -/
namespace Wl
open PySem PySem.Spec PyProof.Rows L2 Evl Pd
/-- no tuple of one int among the text's constants -/
def NP1 (K : PySem.W.Frag) : Prop := ∀ (a : Addr) (i : Int), ¬ KT K a [.int i]
def one1 : List Value → Bool
  | [.int _ _] => true
  | _ => false
def np1B (K : PySem.W.Frag) : Bool := K.all fun p => match p.2.data with
  | .seq its _ => !one1 its.toList
  | _ => true
theorem np1_of {K : PySem.W.Frag} (h : np1B K = true) : NP1 K := by
  rintro a i ⟨o, its, n, e1, _, e3, _, e5⟩
  unfold np1B at h
  rw [List.all_eq_true] at h
  have := h _ (lookup_mem e1)
  simp only [e3] at this
  generalize its.toList = us at e5 this
  cases e5 with
  | cons r1 t1 =>
    cases t1
    obtain ⟨t, rfl⟩ := r1
    cases this
def keyL : PyData → Option (List Int)
  | .tuple [.int i] => some [i]
  | .tuple [.int i, .int j] => some [i, j]
  | _ => none
@[simp] theorem keyL_1 {i : Int} : keyL (.tuple [.int i]) = some [i] := rfl
@[simp] theorem keyL_2 {i j : Int} : keyL (.tuple [.int i, .int j]) = some [i, j] := rfl
abbrev iK (is : List Int) : List Key := is.map fun i => .inl i
def tTInL (ty td : TE) : TE := tDIn ty td
def tTNotInL (ty td : TE) : TE := tDNotIn ty td
section
variable {X : Cx} {o i : Expr} {td ty : TE} {K : PySem.W.Frag}
theorem pc_tinL (hu : X.A.units + 1 < cLine) (hi : PE X i ty) (ho : PE X o td) : PC X .In i o (tTInL ty td) := pc_din hu hi ho
theorem pc_tnotinL (hu : X.A.units + 1 < cLine) (hi : PE X i ty) (ho : PE X o td) : PC X .NotIn i o (tTNotInL ty td) := pc_dnotin hu hi ho
theorem k_inD (hK : X.K = K) {k : Nat} (hr : Room k X.A) : OpR X (compareOp .In) (rInD K) := by subst hK; exact op_inD (by have := hr.un; omega)
theorem k_notInD (hK : X.K = K) {k : Nat} (hr : Room k X.A) : OpR X (compareOp .NotIn) (rNotInD K) := by subst hK; exact op_notInD (by have := hr.un; omega)
end
section
variable {K : PySem.W.Frag} {XX : XP} {N : Addr → Prop} {H : Hp} {h : Lh}
theorem Rl.keyL {v : V} {d : PyData} {x : List Int} (np : NP K) (np1 : NP1 K) (r : Rl K N H h v d) (e : Wl.keyL d = some x) : ∃ b, v = .ref b ∧ H b = some (.tup ((iK x).map L2.kV)) := by
  unfold Wl.keyL at e
  split at e
  · cases e
    cases r with
    | tup h1 h2 =>
      cases h2 with
      | cons a r2 =>
        cases r2
        have ea := a.i
        subst ea
        rcases h1 with h1 | h1
        · exact ⟨_, rfl, h1.1⟩
        · exact (np1 _ _ h1).elim
  · cases e
    cases r with
    | tup h1 h2 =>
      cases h2 with
      | cons a r2 => cases r2 with
        | cons b r3 =>
          cases r3
          have ea := a.i
          have eb := b.i
          subst ea eb
          rcases h1 with h1 | h1
          · exact ⟨_, rfl, h1.1⟩
          · exact (np _ _ _ h1).elim
  · cases e
@[simp] def wTInL (K : PySem.W.Frag) (neg : Bool) (b a : WE) : WE := fun ρ h P => b ρ h fun y h1 => a ρ h1 fun d h2 => ∃ p kvs k, d = rf p ∧ tdv h2 p = some kvs ∧ keyL y = some k ∧ NP K ∧ NP1 K ∧ P (.bool (if neg then !(valD kvs (iK k)).isSome else (valD kvs (iK k)).isSome)) h2
instance {td ty : TE} {a b : WE} [A : RE K XX td a] [B : RE K XX ty b] : RE K XX (tTInL ty td) (wTInL K false b a) := ⟨fun S E p k =>
  B.run S E p fun y yd H1 h1 t1 S1 r1 p1 => A.run S1 (E.tr t1) p1 fun v d H2 h2 t2 S2 r2 ⟨q, kvs, kk, e1, e2, e3, np, np1, p2⟩ => by
    obtain ⟨xs, z, r⟩ := S2.toSim.tdv e2
    obtain ⟨b, eb, hb⟩ := (r1.tr t2).keyL np np1 e3
    refine ⟨q, valV xs (iK kk), r2.r (a := q) (by rw [e1]; exact asR_rf q), ?_, ?_⟩
    · rw [eb]; exact DGet.tr z hb
    · rw [KP.someT r]; exact (k.tr (t1.trans t2)).at S2 (.bl _) p2⟩
instance {td ty : TE} {a b : WE} [A : RE K XX td a] [B : RE K XX ty b] : RE K XX (tTNotInL ty td) (wTInL K true b a) := ⟨fun S E p k =>
  B.run S E p fun y yd H1 h1 t1 S1 r1 p1 => A.run S1 (E.tr t1) p1 fun v d H2 h2 t2 S2 r2 ⟨q, kvs, kk, e1, e2, e3, np, np1, p2⟩ => by
    obtain ⟨xs, z, r⟩ := S2.toSim.tdv e2
    obtain ⟨b, eb, hb⟩ := (r1.tr t2).keyL np np1 e3
    refine ⟨q, valV xs (iK kk), r2.r (a := q) (by rw [e1]; exact asR_rf q), ?_, ?_⟩
    · rw [eb]; exact DGet.tr z hb
    · rw [KP.someT r]; exact (k.tr (t1.trans t2)).at S2 (.bl _) p2⟩
@[simp] def fInD (neg : Bool) (d e : PyData) (h : Lh) (P : Wv) : Prop := ∃ ds, lv h e = some ds ∧ clean (snap h d) = true ∧ clean (.list ds) = true ∧ SeqAt.shaped (snap h d) = true ∧ SeqAt.shaped (.list ds) = true ∧ P (.bool (if neg then !(ds.any fun z => PyData.eqv z (snap h d)) else ds.any fun z => PyData.eqv z (snap h d))) h
theorem snap_lv {d : PyData} {ds : List PyData} (e : lv h d = some ds) : snap h d = .list ds := by unfold snap; rw [e]
instance : R2W K (rInD K) (fInD false) := ⟨fun S a c ⟨ds, e, p1, p2, s1, s2, p⟩ k => by
  have := c.snap S (by rw [snap_lv e]; exact p2)
  rw [snap_lv e] at this
  exact ⟨_, ds, a.snap S p1, this, s1, s2, k.at S (.bl _) p⟩⟩
instance : R2W K (rNotInD K) (fInD true) := ⟨fun S a c ⟨ds, e, p1, p2, s1, s2, p⟩ k => by
  have := c.snap S (by rw [snap_lv e]; exact p2)
  rw [snap_lv e] at this
  exact ⟨_, ds, a.snap S p1, this, s1, s2, k.at S (.bl _) p⟩⟩
theorem k_pg_lst {X : Cx} {K : PySem.W.Frag} (hK : X.K = K) {pos : Pos} {es : List Expr} {k : Nat} {t : TGs} {n : Nat} (hc : X.calm = true) (h : PGs X es t)
    (hn : (assignEach es X.env).length = n := by rfl) (hst : (assignEach es X.env).findIdx? (·.1) = none := by rfl) : PG X (.Tuple es k pos) (gLst K n t) := by subst hK; exact pg_lst hc h hn hst
end
/-! ### a statement that walks over a dict -/
def sLockT (t : TS) : TS := tLock t
theorem ps_lockT {X : Cx} {st : Stmt} {t : TS} (h : PS X st t) : PS X st (sLockT t) := ps_lock h
section
variable {K : PySem.W.Frag} {XX : XP}
@[simp] def wLockS (a : WS) : WS := fun E ρ h => ∃ d kvs, h d = some (.dT kvs) ∧ ∀ od xs, a ⟨fun ρ' h' => h' d = some (.lkT od xs kvs) ∧ E.nx ρ' (up h' d (.dT kvs)), fun v h' => h' d = some (.lkT od xs kvs) ∧ E.rt v (up h' d (.dT kvs)), fun ρ' h' => h' d = some (.lkT od xs kvs) ∧ E.bk ρ' (up h' d (.dT kvs)), fun ρ' h' => h' d = some (.lkT od xs kvs) ∧ E.ct ρ' (up h' d (.dT kvs))⟩ ρ (up h d (.lkT od xs kvs))
theorem KoS.lockT {N : Addr → Prop} {H : Hp} {h : Lh} {d : Addr} {od : Obj} {xs : List (List Key × V)} {kvs : List (List Key × PyData)} {P : Ev' → Lh → Prop} {Q : L2.St → Hp → Prop} (e : H d = some (.dT xs)) (e2 : h d = some (.dT kvs)) (k : KoS K XX N H h P Q) :
    KoS K XX N (L2.upd H d (.frz od (.dT xs))) (up h d (.lkT od xs kvs)) (fun ρ' h' => h' d = some (.lkT od xs kvs) ∧ P ρ' (up h' d (.dT kvs))) (fun σ' H' => H' d = some (.frz od (.dT xs)) ∧ Q σ' (L2.upd H' d (.dT xs))) := fun σ' ρ' H1 h1 t1 S1 E1 ⟨e1, p1⟩ => by
  have hp : H d = none ∨ h d ≠ none := .inr (by rw [e2]; intro z; cases z)
  have t : Tr H h (L2.upd H d (.frz od (.dT xs))) (up h d (.lkT od xs kvs)) := Tr.put hp
  obtain ⟨n, u, z1, k1⟩ := S1.toSim.at_ d _ e1
  cases k1 with
  | lkT r2 =>
    have hp1 : H1 d = none ∨ h1 d ≠ none := .inr (by rw [e1]; intro z; cases z)
    have t2 : Tr H1 h1 (L2.upd H1 d (.dT xs)) (up h1 d (.dT kvs)) := Tr.put hp1
    exact ⟨z1, k _ _ _ _ (t.trans (t1.trans t2)) (S1.put hp1 (.dT r2)) (E1.tr t2) p1⟩
theorem Ko.lockT {N : Addr → Prop} {H : Hp} {h : Lh} {d : Addr} {od : Obj} {xs : List (List Key × V)} {kvs : List (List Key × PyData)} {P : Wv} {Q : VK} (e : H d = some (.dT xs)) (e2 : h d = some (.dT kvs)) (k : Ko K XX N H h P Q) :
    Ko K XX N (L2.upd H d (.frz od (.dT xs))) (up h d (.lkT od xs kvs)) (fun v h' => h' d = some (.lkT od xs kvs) ∧ P v (up h' d (.dT kvs))) (fun v H' => H' d = some (.frz od (.dT xs)) ∧ Q v (L2.upd H' d (.dT xs))) := fun v dd H1 h1 t1 S1 r1 ⟨e1, p1⟩ => by
  have hp : H d = none ∨ h d ≠ none := .inr (by rw [e2]; intro z; cases z)
  have t : Tr H h (L2.upd H d (.frz od (.dT xs))) (up h d (.lkT od xs kvs)) := Tr.put hp
  obtain ⟨n, u, z1, k1⟩ := S1.toSim.at_ d _ e1
  cases k1 with
  | lkT r2 =>
    have hp1 : H1 d = none ∨ h1 d ≠ none := .inr (by rw [e1]; intro z; cases z)
    have t2 : Tr H1 h1 (L2.upd H1 d (.dT xs)) (up h1 d (.dT kvs)) := Tr.put hp1
    exact ⟨z1, k _ _ _ _ (t.trans (t1.trans t2)) (S1.put hp1 (.dT r2)) (r1.tr t2) p1⟩
instance {ts : TS} {a : WS} [A : RS K XX ts a] : RS K XX (sLockT ts) (wLockS a) := ⟨fun {N σ H ρ h E D} S e ⟨d, kvs, ed, p⟩ k => by
  obtain ⟨xs, z, r⟩ := S.toSim.dT ed
  refine ⟨d, _, z, trivial, fun od => ?_⟩
  have hp : H d = none ∨ h d ≠ none := .inr (by rw [ed]; intro z; cases z)
  have t : Tr H h (L2.upd H d (.frz od (.dT xs))) (up h d (.lkT od xs kvs)) := Tr.put hp
  exact A.run (S.put hp (.lkT r)) (e.tr t) (p od xs) ⟨k.nx.lockT z ed, k.rt.lockT z ed, k.bk.lockT z ed, k.ct.lockT z ed⟩⟩
end
section
variable {K : PySem.W.Frag}
@[simp] def fMin2 (ds : List PyData) (h : Lh) (P : Wv) : Prop := ∃ i j, ds = [.int i, .int j] ∧ P (.int (if j < i then j else i)) h
instance : RCW K (fun xs H Q => ∃ i j, xs = [.int i, .int j] ∧ Q (.int (if j < i then j else i)) H) fMin2 := ⟨fun S r ⟨i, j, e, p⟩ k => by
  subst e; obtain ⟨v, w, rfl, iv, iw⟩ := r.two; rw [iv.i, iw.i]; exact ⟨i, j, rfl, k.at S (.int _) p⟩⟩
end
end Wl
set_option Elab.async false
set_option linter.all false
set_option maxRecDepth 100000
set_option maxHeartbeats 4000000
/-! Wz: zip, attributes in unpacking, name += e, sorted of a list of pairs of ints. -/
namespace Wl
open PySem PySem.Spec PyProof.Rows L2 Evl Pd
/-! ### o.f as a target within a tuple -/
def gFld (K : PySem.W.Frag) (ta : TE) (f : Str) : TG := fun v σ H Q => ta σ H fun x H2 => ∃ a C dx fs, x = .ref a ∧ H2 a = some (.ins C dx fs) ∧ Cls K C ∧ NoAttr K C f ∧ fs.length < 1000 ∧ Q σ (L2.upd H2 a (.ins C dx (L2.putF f v fs)))
theorem pg_fld {X : Cx} {o : Expr} {f : Str} {pos : Pos} {ta : TE} (ha : PE X o ta) : PG X (.Attribute o f pos) (gFld X.K ta f) := by
  refine ⟨fun pins s σ H v u Q I r h => ?_⟩
  refine PySem.W.kas_attr (thn (ha.run pins s σ H _ I h) fun ov s2 ⟨x, H2, I2, rx, a, C, dx, fs, ex, ea, c, n, l, q2⟩ => ?_)
  subst ex
  obtain rfl : ov = Value.ref a := rx
  exact setattr_ok I2 ea c n l r fun s3 I3 => ⟨σ, _, I3, q2⟩
theorem k_pg_fld {X : Cx} {K : PySem.W.Frag} (hK : X.K = K) {o : Expr} {f : Str} {pos : Pos} {ta : TE} (ha : PE X o ta) : PG X (.Attribute o f pos) (gFld K ta f) := by subst hK; exact pg_fld ha
theorem k_sortedPO {X : Cx} {K : PySem.W.Frag} (hK : X.K = K) : CallR X (.builtin "sorted") (rSortedPO K) := by subst hK; exact cr_sortedPO
section
variable {K : PySem.W.Frag} {XX : XP}
@[simp] def wGFld (K : PySem.W.Frag) (a : WE) (f : Str) : WG := fun d ρ h P => a ρ h fun o h2 => ∃ p C fs, o = rf p ∧ h2 p = some (.ins C fs) ∧ Cls K C ∧ NoAttr K C f ∧ fs.length < 1000 ∧ P ρ (up h2 p (.ins C (putFD f d fs)))
instance {ta : TE} {a : WE} {f : Str} [A : RE K XX ta a] : RG K XX (gFld K ta f) (wGFld K a f) := ⟨fun {N v d σ H ρ h P Q} S En r1 p k =>
  A.run S En p fun x o H2 h2 t2 S2 r2 ⟨q, C, fs, e, e2, c1, c2, l, p2⟩ => by
    obtain ⟨dx, xs, z, pr⟩ := Rl.insH S2 e2
    have hp : H2 q = none ∨ h2 q ≠ none := .inr (by rw [e2]; intro z; cases z)
    have t3 : Tr H2 h2 (L2.upd H2 q (.ins C dx (L2.putF f v xs))) (up h2 q (.ins C (putFD f d fs))) := Tr.put hp
    exact ⟨q, C, dx, xs, r2.r (a := q) (by rw [e]; exact asR_rf q), z, c1, c2, by rw [Paired.len pr]; exact l, k _ _ _ _ (t2.trans t3) (S2.put hp (.ins (Paired.putF (r1.tr t2) pr))) (En.tr (t2.trans t3)) p2⟩⟩
/-! ### zip of a list and a tuple -/
abbrev zipD (xs ys : List PyData) : List PyData := (xs.zip ys).map fun p => .tuple [p.1, p.2]
theorem zipD_len {xs ys : List PyData} : (zipD xs ys).length = min xs.length ys.length := by simp [zipD]
theorem zipD_get {xs ys : List PyData} {i : Nat} {x y : PyData} (h1 : xs[i]? = some x) (h2 : ys[i]? = some y) : (zipD xs ys)[i]? = some (.tuple [x, y]) := by
  have : (xs.zip ys)[i]? = some (x, y) := List.getElem?_zip_eq_some.mpr ⟨h1, h2⟩
  simp [zipD, this]
@[simp] def wIZipLT (a : WA) : WI := fun ρ h P => a ρ h fun es h1 => ∃ d e xs ys, es = [d, e] ∧ lv h1 d = some xs ∧ tv e = some ys ∧ xs.length = ys.length ∧ P (zipD xs ys) (fun h3 => lv h3 d = some xs) h1
instance {ta : TA} {a : WA} [A : RA K XX ta a] : RI K XX (iZipLT K ta) (wIZipLT a) := ⟨fun {N σ H ρ h P R} S E p k => A.run S E p fun vs es H1 h1 t1 S1 r1 ⟨d, e, xs, ys, e0, e1, e2, hl, p1⟩ => by
  subst e0
  obtain ⟨v, u, rfl, rv, ru⟩ := r1.two
  obtain ⟨q, vs1, rfl, t, rs⟩ := rv.lv S1 e1
  obtain ⟨q2, vs2, rfl, tt, rs2⟩ := ru.tup' e2
  have at3 : ∀ (N' : Addr → Prop) (H3 : Hp) (h3 : Lh), (∀ a, N' a → N a ∨ H1 a = none) → Tr H1 h1 H3 h3 → Sx K XX N' H3 h3 → lv h3 d = some xs → ∃ zs, SqL K H3 q zs ∧ Rls K N' H3 h3 zs xs := fun N' H3 h3 hN t3 S3 e3 => by
    obtain ⟨q', zs, e', z, r3⟩ := ((rv.hid hN).tr t3).lv S3 e3
    cases e'
    exact ⟨zs, z, r3⟩
  refine ⟨q, q2, vs1, vs2, rfl, t, tt.sq, k _ H1 h1 (zipD xs ys) _ (fun H => (∃ zs, SqL K H q zs ∧ zs.length = xs.length) ∧ SqT K H q2 vs2) (fun i H v H' => ∃ T x y, v = .ref T ∧ H T = none ∧ H' = upd H T (.tup [x, y]) ∧ (∀ xs, SqL K H q xs → xs[i]? = some x) ∧ vs2[i]? = some y) t1 S1 p1 (by
    rw [zipD_len, ← hl, Nat.min_self]
    have l2 := rs2.length
    exact ⟨fun i H hi ⟨⟨zs, s, l⟩, s2⟩ => ⟨zs, vs2, zs[i]'(by omega), vs2[i]'(by omega), s, s2, by simp [show i < zs.length by omega], by simp [show i < vs2.length by omega]⟩, fun H ⟨⟨zs, s, l⟩, s2⟩ => ⟨zs, vs2, s, s2, by omega, by omega, by omega⟩, fun i H x H' hi ⟨_, s2⟩ ⟨T, x, y, a1, a2, a3, a4, a5⟩ => ⟨T, x, y, a1, a2, a3, a4, a5 _ s2⟩⟩) (fun N' H3 h3 hN t3 S3 kp => ?_) fun N' i H3 h3 x H4 hN t3 S3 kp yy => ?_⟩
  · obtain ⟨zs, z, r3⟩ := at3 N' H3 h3 hN t3 S3 kp
    exact ⟨⟨zs, z, r3.length⟩, tt.tr (N' := N) t3⟩
  · obtain ⟨zs, z, r3⟩ := at3 N' H3 h3 hN t3 S3 kp
    obtain ⟨T, x, y, rfl, hT, rfl, hx, hy⟩ := yy
    obtain ⟨dx, hdx, rx⟩ := r3.get (hx zs z)
    obtain ⟨dy, hdy, ry⟩ := rs2.get hy
    exact ⟨_, zipD_get hdx hdy, Tr.new hT, Ex.new hT, S3.new hT, .tup (.inl ⟨upd_same, S3.hn hT, S3.nn hT⟩) (.cons (rx.tr (Tr.new hT)) (.cons (((ry.hid hN).tr t3).tr (Tr.new hT)) .nil))⟩⟩
/-- zip of two lists -/
@[simp] def wIZipLL (a : WA) : WI := fun ρ h P => a ρ h fun es h1 => ∃ d e xs ys, es = [d, e] ∧ lv h1 d = some xs ∧ lv h1 e = some ys ∧ P (zipD xs ys) (fun h3 => lv h3 d = some xs ∧ lv h3 e = some ys) h1
instance {ta : TA} {a : WA} [A : RA K XX ta a] : RI K XX (RZ.iZipA K ta) (wIZipLL a) := ⟨fun {N σ H ρ h P R} S E p k => A.run S E p fun vs es H1 h1 t1 S1 r1 ⟨d, e, xs, ys, e0, e1, e2, p1⟩ => by
  subst e0
  obtain ⟨v, u, rfl, rv, ru⟩ := r1.two
  obtain ⟨q, vs1, rfl, t, rs⟩ := rv.lv S1 e1
  obtain ⟨q2, vs2, rfl, tt, rs2⟩ := ru.lv S1 e2
  have at3 : ∀ (d : PyData) (q : Addr) (xs : List PyData), Rl K N H1 h1 (.ref q) d → ∀ (N' : Addr → Prop) (H3 : Hp) (h3 : Lh), (∀ a, N' a → N a ∨ H1 a = none) → Tr H1 h1 H3 h3 → Sx K XX N' H3 h3 → lv h3 d = some xs → ∃ zs, SqL K H3 q zs ∧ Rls K N' H3 h3 zs xs := fun d q xs rv N' H3 h3 hN t3 S3 e3 => by
    obtain ⟨q', zs, e', z, r3⟩ := ((rv.hid hN).tr t3).lv S3 e3
    cases e'
    exact ⟨zs, z, r3⟩
  refine ⟨q, q2, vs1, vs2, rfl, .inl ⟨t, tt, k _ H1 h1 (zipD xs ys) _ (fun H => (∃ zs, SqL K H q zs ∧ zs.length = xs.length) ∧ ∃ zs, SqL K H q2 zs ∧ zs.length = ys.length) (fun i H v H' => ∃ T x y, v = .ref T ∧ H T = none ∧ H' = upd H T (.tup [x, y]) ∧ (∀ xs, SqL K H q xs → xs[i]? = some x) ∧ ∀ ys, SqL K H q2 ys → ys[i]? = some y) t1 S1 p1 (by
    rw [zipD_len]
    exact ⟨fun i H hi ⟨⟨zs, s, l⟩, ws, s2, l2⟩ => ⟨zs, ws, zs[i]'(by omega), ws[i]'(by omega), s, s2, by simp [show i < zs.length by omega], by simp [show i < ws.length by omega]⟩, fun H ⟨⟨zs, s, l⟩, ws, s2, l2⟩ => ⟨zs, ws, s, s2, by omega⟩, fun i H x H' hi _ y => y⟩) (fun N' H3 h3 hN t3 S3 kp => ?_) fun N' i H3 h3 x H4 hN t3 S3 kp yy => ?_⟩⟩
  · obtain ⟨zs, z, r3⟩ := at3 d q xs rv N' H3 h3 hN t3 S3 kp.1
    obtain ⟨ws, z2, r4⟩ := at3 e q2 ys ru N' H3 h3 hN t3 S3 kp.2
    exact ⟨⟨zs, z, r3.length⟩, ws, z2, r4.length⟩
  · obtain ⟨zs, z, r3⟩ := at3 d q xs rv N' H3 h3 hN t3 S3 kp.1
    obtain ⟨ws, z2, r4⟩ := at3 e q2 ys ru N' H3 h3 hN t3 S3 kp.2
    obtain ⟨T, x, y, rfl, hT, rfl, hx, hy⟩ := yy
    obtain ⟨dx, hdx, rx⟩ := r3.get (hx zs z)
    obtain ⟨dy, hdy, ry⟩ := r4.get (hy ws z2)
    exact ⟨_, zipD_get hdx hdy, Tr.new hT, Ex.new hT, S3.new hT, .tup (.inl ⟨upd_same, S3.hn hT, S3.nn hT⟩) (.cons (rx.tr (Tr.new hT)) (.cons (ry.tr (Tr.new hT)) .nil))⟩⟩
/-! ### sorted of a list of pairs of ints -/
@[simp] def fSortedPO (K : PySem.W.Frag) (ds : List PyData) (h : Lh) (P : List PyData → Lh → Prop) : Prop := NP K ∧ ∃ d, ∃ ps : List (Int × Int), ds = [d] ∧ Wl.lv h d = some (ps.map pD) ∧
  ∀ L : List (Int × Int), L.Perm ps → L.Pairwise (fun x y => SrtO.lexB y x = false) → P (L.map pD) h
theorem Rls.pairs {N : Addr → Prop} {H : Hp} {h : Lh} : ∀ {vs : List V} {ps : List (Int × Int)}, Rls K N H h vs (ps.map pD) → ∃ ws : List (V × Int × Int), ws.map (·.1) = vs ∧ ws.map (·.2) = ps ∧ ∀ w ∈ ws, Rl K N H h w.1 (pD w.2)
  | _, [], .nil => ⟨[], rfl, rfl, fun _ h => nomatch h⟩
  | v :: vs, p :: ps, .cons a r => by
    obtain ⟨ws, h1, h2, h3⟩ := Rls.pairs r
    refine ⟨(v, p) :: ws, by rw [List.map_cons, h1], by rw [List.map_cons, h2], fun w hw => ?_⟩
    rcases List.mem_cons.mp hw with rfl | hw
    · exact a
    · exact h3 w hw
def kV2 (H : Hp) : V → Int × Int
  | .ref t => kA H t
  | _ => (0, 0)
instance : RCN K (rSortedPO K) (fSortedPO K) := ⟨fun {XX N H h xs ds P Q} S r ⟨np, d, ps, e, e2, q⟩ k => by
  subst e
  obtain ⟨v, rfl, i⟩ := r.one
  obtain ⟨a, vs, rfl, sq, rr⟩ := i.lv S e2
  obtain ⟨ws, w1, w2, w3⟩ := Rls.pairs rr
  have w4 : ∀ w ∈ ws, ∃ t, w.1 = .ref t ∧ H t = some (.tup [.int w.2.1, .int w.2.2]) := fun w hw => by
    obtain ⟨b, e, z⟩ := (w3 w hw).keyT np (x := w.2) rfl
    exact ⟨b, e, z⟩
  have kv : ∀ w ∈ ws, kV2 H w.1 = w.2 := fun w hw => by
    obtain ⟨t, e, z⟩ := w4 w hw
    rw [e]
    show kA H t = w.2
    unfold kA
    rw [z]
  refine ⟨a, vs, kV2 H, rfl, sq, fun x hx => ?_, fun ys p st pm hn => ?_⟩
  · rw [← w1] at hx
    obtain ⟨w, hw, rfl⟩ := List.mem_map.mp hx
    obtain ⟨t, e, z⟩ := w4 w hw
    exact ⟨t, e, by rw [kv w hw]; exact z⟩
  · obtain ⟨ws', p1, p2⟩ := perm_lift (·.1) pm.perm ws w1
    have w3' : ∀ w ∈ ws', Rl K N H h w.1 (pD w.2) := fun w hw => w3 w (p1.mem_iff.mp hw)
    have pw' : (ws'.map (·.2)).Pairwise (fun x y => SrtO.lexB y x = false) := by
      unfold SrtO.Srtd at st
      rw [← p2] at st
      have := List.pairwise_map.mp st
      refine List.pairwise_map.mpr (List.Pairwise.imp_of_mem (fun {a b} ha hb h => ?_) this)
      have h : SrtO.lexB (kV2 H b.1) (kV2 H a.1) = false := h
      rw [kv a (p1.mem_iff.mp ha), kv b (p1.mem_iff.mp hb)] at h
      exact h
    have := q (ws'.map (·.2)) (by rw [← w2]; exact p1.map _) pw'
    rw [List.map_map] at this
    have rl : Rls K N H h ys (ws'.map (pD ∘ fun x => x.2)) := by
      rw [← p2]
      exact Rls.of fun w hw => w3' w hw
    exact k.new S hn rl this⟩
end
section
variable {K : PySem.W.Frag} {XX : XP}
@[simp] def wAug (i : Nat) (a : WE) (f : Int → Int → Int) : WS := fun E ρ h => ∃ x, ρ[i]? = some (some (.int x)) ∧ a ρ h fun d h1 => ∃ y, d = .int y ∧ E.nx (ρ.set i (some (.int (f x y)))) h1
instance {i : Nat} {te : TE} {a : WE} {f : Int → Int → Int} [A : RE K XX te a] : RS K XX (tAug i te (ipI f)) (wAug i a f) := ⟨fun S En ⟨x, ex, p⟩ k => by
  obtain ⟨v, hv, r⟩ := En.2 i _ ex
  have := r.i
  subst this
  exact ⟨_, hv, A.run S En p fun y d H1 h1 t1 S1 r1 ⟨z, e, p1⟩ => by
    subst e
    exact ⟨x, z, rfl, r1.i, k.nx _ _ _ _ t1 S1 ((En.tr t1).set i (.int _)) p1⟩⟩⟩
end
end Wl
set_option Elab.async false
set_option linter.all false
set_option maxRecDepth 100000
set_option maxHeartbeats 1000000
/-! the memory as a model: no program -/
namespace Mm
open PySem PySem.Spec PyProof.Rows L2 Evl Pd Wl
structure Row where
  stamp : Int
  live : Bool
  size : Int
  start : Int
  filled : Int
  to : Option Int
  done : Int
  mark : Int
  black : Bool
instance : Inhabited Row := ⟨⟨0, false, 0, 0, 0, none, 0, 0, false⟩⟩
def oI : Option Int → PyData
  | none => .none
  | some i => .int i
abbrev Row.f (r : Row) : List (Str × PyData) := [("stamp", .int r.stamp), ("live", .bool r.live), ("size", .int r.size), ("start", .int r.start), ("filled", .int r.filled), ("to", oI r.to), ("done", .int r.done), ("mark", .int r.mark), ("black", .bool r.black)]
abbrev Row.ds (r : Row) : List PyData := [.int r.stamp, .bool r.live, .int r.size, .int r.start, .int r.filled, oI r.to, .int r.done, .int r.mark, .bool r.black]
/-- the arena, the table, the end -/
structure Mem where
  ar : List PyData
  rows : List Row
  e : Int
def Mem.row (m : Mem) (i : Nat) : Row := m.rows.getD i default
def liveN (m : Mem) : Nat := (m.rows.filter fun r => r.live).length
def fits (m : Mem) (s : Int) : Bool := decide (m.e + s ≤ (m.ar.length : Nat)) && decide (liveN m < m.rows.length)
def spot (r : Row) (k : Int) : Int := match r.to with
  | some t => if k < r.done then t + k else r.start + k
  | none => r.start + k
def isCnt : PyData → Bool
  | .int i => decide (0 ≤ i)
  | _ => false
def isHdl : PyData → Bool
  | .tuple [a, b] => isCnt a && isCnt b
  | _ => false
def isVal : PyData → Bool
  | .none => true
  | .int _ => true
  | d => isHdl d
/-- a live slot -/
def atSlot (m : Mem) : PyData → Option Nat
  | .int i => if 0 ≤ i ∧ i < (m.rows.length : Nat) ∧ (m.row i.toNat).live = true then some i.toNat else none
  | _ => none
/-- a live handle -/
def atHdl (m : Mem) : PyData → Option Nat
  | .tuple [.int a, .int b] => if 0 ≤ a ∧ 0 ≤ b ∧ a < (m.rows.length : Nat) ∧ (m.row a.toNat).live = true ∧ (m.row a.toNat).stamp = b then some a.toNat else none
  | _ => none
inductive Bad | room | handle | cell | value | move
  deriving DecidableEq
abbrev Out := Except Bad PyData × Mem
def Mem.put (m : Mem) (i : Nat) (r : Row) : Mem := { m with rows := m.rows.set i r }
def Mem.poke (m : Mem) (k : Int) (d : PyData) : Mem := { m with ar := m.ar.set k.toNat d }
def Mem.peek (m : Mem) (k : Int) : PyData := m.ar.getD k.toNat .none
def dead (m : Mem) : Option Nat := m.rows.findIdx? fun r => !r.live
def mover (m : Mem) : Option Nat := m.rows.findIdx? fun r => r.live && r.to.isSome
def isTo (r : Row) (d : PyData) : Bool := match d with
  | .int t => decide (0 ≤ t) && decide (t < r.start)
  | _ => false
def reserveO (m : Mem) (s : Int) : Out := if fits m s then match dead m with
    | some i => (.ok (.tuple [.int (i : Nat), .int (m.row i).stamp]), { (m.put i ⟨(m.row i).stamp, true, s, m.e, 0, none, 0, 0, false⟩) with e := m.e + s })
    | none => (.error .room, m)
  else (.error .room, m)
def fillO (m : Mem) (d : PyData) : Out := match atHdl m d with
  | none => (.error .handle, m)
  | some i => let r := m.row i; if r.filled = r.size then (.error .cell, m) else (.ok (.bool (decide (r.filled + 1 = r.size))), (m.poke (spot r r.filled) .none).put i { r with filled := r.filled + 1 })
def sizeO (m : Mem) (d : PyData) : Out := match atHdl m d with
  | none => (.error .handle, m)
  | some i => (.ok (.int (m.row i).size), m)
/-- a count below b -/
def below (b : Int) : PyData → Bool
  | .int k => decide (0 ≤ k) && decide (k < b)
  | _ => false
def numI : PyData → Int
  | .int k => k
  | _ => 0
def readO (m : Mem) (d k : PyData) : Out := match atHdl m d with
  | none => (.error .handle, m)
  | some i => let r := m.row i; if below r.size k then (.ok (if numI k < r.filled then m.peek (spot r (numI k)) else .none), m) else (.error .cell, m)
def writeO (m : Mem) (d k v : PyData) : Out := match atHdl m d with
  | none => (.error .handle, m)
  | some i => let r := m.row i; if below r.filled k then if isVal v then (.ok (m.peek (spot r (numI k))), m.poke (spot r (numI k)) v) else (.error .value, m) else (.error .cell, m)
def placeO (m : Mem) (d k : PyData) : Out := match atHdl m d with
  | none => (.error .handle, m)
  | some i => let r := m.row i; if below r.size k then (.ok (.int (spot r (numI k))), m) else (.error .cell, m)
def freeO (m : Mem) (s : PyData) : Out := match atSlot m s with
  | none => (.error .handle, m)
  | some i => let r := m.row i; if r.to.isSome then (.error .move, m) else (.ok .none, m.put i { r with live := false, stamp := r.stamp + 1 })
def startO (m : Mem) (s : PyData) : Out := match atSlot m s with
  | none => (.error .handle, m)
  | some i => (.ok (.int (m.row i).start), m)
def beginO (m : Mem) (s t : PyData) : Out := match atSlot m s with
  | none => (.error .handle, m)
  | some i => let r := m.row i
    if (mover m).isSome || !isTo r t then (.error .move, m)
    else if m.rows.any (fun o => o.live && decide (o.start < r.start) && decide (o.start + o.size > numI t)) then (.error .move, m)
    else (.ok .none, m.put i { r with to := some (numI t), done := 0 })
def copyO (m : Mem) (s : PyData) : Out := match atSlot m s with
  | none => (.error .handle, m)
  | some i => let r := m.row i
    match r.to with
    | none => (.error .move, m)
    | some t => if r.done = r.size then (.error .move, m) else (.ok (.bool (decide (r.done + 1 = r.size))), (m.poke (t + r.done) (m.peek (r.start + r.done))).put i { r with done := r.done + 1 })
def turnO (m : Mem) (s : PyData) : Out := match atSlot m s with
  | none => (.error .handle, m)
  | some i => let r := m.row i
    match r.to with
    | none => (.error .move, m)
    | some t => if r.done < r.size then (.error .move, m) else (.ok .none, m.put i { r with start := t, to := none, done := 0 })
def settleO (m : Mem) (f : PyData) : Out :=
  if (mover m).isSome || !below (m.e + 1) f then (.error .move, m)
  else if m.rows.any (fun o => o.live && decide (o.start + o.size > numI f)) then (.error .move, m)
  else (.ok .none, { m with e := numI f })
def stateD (m : Mem) : PyData := .tuple [.tuple m.ar, .tuple (m.rows.map fun r => .tuple r.ds), .int m.e]
/-- where a live row lies, with what it moves to -/
def lo (r : Row) : Int := r.to.getD r.start
def hi (r : Row) : Int := r.start + r.size
structure RowOk (e : Int) (r : Row) : Prop where
  size : 1 ≤ r.size
  fil0 : 0 ≤ r.filled
  fil : r.filled ≤ r.size
  st0 : 0 ≤ r.start
  hi : r.start + r.size ≤ e
  dn0 : 0 ≤ r.done
  dnN : r.to = none → r.done = 0
  to : ∀ t, r.to = some t → 0 ≤ t ∧ t < r.start ∧ r.done ≤ r.size
/-- what always holds -/
structure Snd (m : Mem) : Prop where
  e0 : 0 ≤ m.e
  eL : m.e ≤ (m.ar.length : Nat)
  rc : m.rows.length ≤ 1000
  ac : m.ar.length ≤ 10000
  row : ∀ i, i < m.rows.length → (m.row i).live = true → RowOk m.e (m.row i)
  one : ∀ i j, i < m.rows.length → j < m.rows.length → (m.row i).live = true → (m.row j).live = true → (m.row i).to.isSome = true → (m.row j).to.isSome = true → i = j
  dis : ∀ i j, i < m.rows.length → j < m.rows.length → i ≠ j → (m.row i).live = true → (m.row j).live = true → hi (m.row i) ≤ lo (m.row j) ∨ hi (m.row j) ≤ lo (m.row i)
/-! ### in the heap -/
structure Mp where
  a : Addr
  ar : Addr
  tb : Addr
  es : List Addr
abbrev mo (C : Addr) (p : Mp) (e : Int) : LO := .ins C [("_arena", rf p.ar), ("_table", rf p.tb), ("_end", .int e)]
def cells (C E : Addr) (m : Mem) (p : Mp) : List Res := ceR p.a (mo C p m.e) :: ceR p.ar (.lst m.ar) :: ceR p.tb (.lst (p.es.map fun x => rf x)) :: (List.range p.es.length).map fun i => ceR (p.es.getD i 0) (.ins E (m.row i).f)
structure MemK (C E : Addr) (m : Mem) (p : Mp) (h : Lh) : Prop where
  at_ : At (cells C E m p) h
  len : p.es.length = m.rows.length
def Mp.F (p : Mp) : List Addr := p.a :: p.ar :: p.tb :: p.es
end Mm
set_option Elab.async false
set_option linter.all false
set_option maxRecDepth 100000
set_option maxHeartbeats 1000000
namespace Mm
open PySem PySem.Spec PyProof.Rows L2 Evl Pd Wl
section
variable {C E : Addr} {m : Mem} {p : Mp} {h h' : Lh}
theorem range_getD (l : List Addr) : ((List.range l.length).map fun i => l.getD i 0) = l := by
  refine List.ext_getElem (by simp) fun i h1 h2 => ?_
  simp at h1
  simp [List.getD, h1]
theorem Fs_cells : Fs (cells C E m p) = p.F := by
  unfold cells Mp.F
  rw [Fs_cons, Fs_cons, Fs_cons]
  have : Fs ((List.range p.es.length).map fun i => ceR (p.es.getD i 0) (.ins E (m.row i).f)) = p.es := by
    have e : ∀ l : List Nat, Fs (l.map fun i => ceR (p.es.getD i 0) (.ins E (m.row i).f)) = l.map fun i => p.es.getD i 0 := by
      intro l
      induction l with
      | nil => rfl
      | cons a l ih => rw [List.map_cons, Fs_cons, ih]; rfl
    rw [e, range_getD]
  rw [this]
  rfl
theorem row_put_eq {m : Mem} {i : Nat} {r : Row} (hi : i < m.rows.length) : (m.put i r).row i = r := by
  simp [Mem.put, Mem.row, List.getD, hi]
theorem row_put_ne {m : Mem} {i j : Nat} {r : Row} (ij : i ≠ j) : (m.put i r).row j = m.row j := by
  simp [Mem.put, Mem.row, List.getD, List.getElem?_set_ne ij]
theorem MemK.nd (A : MemK C E m p h) : p.F.Nodup := by have := A.at_.nd; rwa [Fs_cells] at this
theorem MemK.a (A : MemK C E m p h) : h p.a = some (mo C p m.e) := A.at_.get (i := 0) rfl
theorem MemK.arr (A : MemK C E m p h) : h p.ar = some (.lst m.ar) := A.at_.get (i := 1) rfl
theorem MemK.tbl (A : MemK C E m p h) : h p.tb = some (.lst (p.es.map fun x => rf x)) := A.at_.get (i := 2) rfl
theorem cell_at {i : Nat} (hi : i < p.es.length) : (cells C E m p)[i + 3]? = some (ceR p.es[i] (.ins E (m.row i).f)) := by
  unfold cells
  simp [hi, List.getD]
theorem MemK.en (A : MemK C E m p h) (i : Nat) (hi : i < p.es.length) : h p.es[i] = some (.ins E (m.row i).f) := A.at_.get (cell_at hi)
theorem MemK.keep (A : MemK C E m p h) (f : ∀ x ∈ p.F, ∀ o, h x = some o → h' x = some o) : MemK C E m p h' := ⟨A.at_.keep (by rw [Fs_cells]; exact f), A.len⟩
theorem MemK.ex (A : MemK C E m p h) (f : Lx h h') : MemK C E m p h' := A.keep fun x _ => f x
theorem MemK.has (A : MemK C E m p h) : ∀ x ∈ p.F, ∃ o, h x = some o := by have := A.at_.has; rwa [Fs_cells] at this
/-- one place is written -/
theorem At.putc {rs : List Res} {i : Nat} {a : Addr} {o u : LO} (A : At rs h) (hi : rs[i]? = some (ceR a o)) : At (rs.set i (ceR a u)) (up h a u) := ((Tk.start A).put i hi).at_
theorem MemK.putRow (A : MemK C E m p h) (i : Nat) (hi : i < p.es.length) (r : Row) : MemK C E (m.put i r) p (up h p.es[i] (.ins E r.f)) := by
  refine ⟨?_, by rw [A.len]; simp [Mem.put]⟩
  have := At.putc (u := .ins E r.f) A.at_ (cell_at hi)
  have e : (cells C E m p).set (i + 3) (ceR p.es[i] (.ins E r.f)) = cells C E (m.put i r) p := by
    refine List.ext_getElem? fun j => ?_
    by_cases c : i + 3 = j
    · subst c
      rw [List.getElem?_set_self (by simp [cells]; exact hi), cell_at hi, row_put_eq (by rw [← A.len]; exact hi)]
    · rw [List.getElem?_set_ne c]
      match j with
      | 0 => rfl
      | 1 => rfl
      | 2 => rfl
      | k + 3 =>
        rcases Nat.lt_or_ge k p.es.length with hk | hk
        · rw [cell_at hk, cell_at hk, row_put_ne (by omega)]
        · simp [cells, hk]
  rw [e] at this
  exact this
theorem MemK.putAr (A : MemK C E m p h) (xs : List PyData) : MemK C E { m with ar := xs } p (up h p.ar (.lst xs)) := ⟨At.putc (i := 1) (u := .lst xs) A.at_ rfl, A.len⟩
theorem MemK.putE (A : MemK C E m p h) (e : Int) : MemK C E { m with e := e } p (up h p.a (mo C p e)) := ⟨At.putc (i := 0) (u := mo C p e) A.at_ rfl, A.len⟩
theorem Mp.mem_es {p : Mp} {i : Nat} (hi : i < p.es.length) : p.es[i] ∈ p.F := by simp [Mp.F]
theorem Mp.mem_a (p : Mp) : p.a ∈ p.F := by simp [Mp.F]
theorem Mp.mem_ar (p : Mp) : p.ar ∈ p.F := by simp [Mp.F]
theorem MemK.ne_es (A : MemK C E m p h) {i : Nat} (hi : i < p.es.length) : p.a ≠ p.es[i] ∧ p.ar ≠ p.es[i] ∧ p.tb ≠ p.es[i] := by
  have := A.nd
  unfold Mp.F at this
  simp only [List.nodup_cons, List.mem_cons, not_or] at this
  have hm : p.es[i] ∈ p.es := List.getElem_mem hi
  refine ⟨fun z => ?_, fun z => ?_, fun z => ?_⟩
  · rw [← z] at hm; exact this.1.2.2 hm
  · rw [← z] at hm; exact this.2.1.2 hm
  · rw [← z] at hm; exact this.2.2.1 hm
theorem MemK.ne_a (A : MemK C E m p h) : p.a ≠ p.ar ∧ p.a ≠ p.tb ∧ p.ar ≠ p.tb := by
  have := A.nd
  unfold Mp.F at this
  simp only [List.nodup_cons, List.mem_cons, not_or] at this
  exact ⟨this.1.1, this.1.2.1, this.2.1.1⟩
theorem MemK.qt (A : MemK C E m p h) : qv h (rf p.tb) = some (p.es.map fun x => rf x) := by simp [qv, lv, A.tbl]
theorem MemK.qa (A : MemK C E m p h) : qv h (rf p.ar) = some m.ar := by simp [qv, lv, A.arr]
theorem MemK.lt (A : MemK C E m p h) : lv h (rf p.tb) = some (p.es.map fun x => rf x) := by simp [lv, A.tbl]
theorem MemK.la (A : MemK C E m p h) : lv h (rf p.ar) = some m.ar := by simp [lv, A.arr]
/-- within the arena -/
theorem Snd.spot {m : Mem} (S : Snd m) {i : Nat} (hi : i < m.rows.length) (hl : (m.row i).live = true) {k : Int} (h0 : 0 ≤ k) (hk : k < (m.row i).size) : 0 ≤ Mm.spot (m.row i) k ∧ Mm.spot (m.row i) k < (m.ar.length : Nat) := by
  have r := S.row i hi hl
  have h1 := r.st0; have h2 := r.hi; have h3 := S.eL
  unfold Mm.spot
  split
  · next t e =>
    obtain ⟨a, b, c⟩ := r.to t e
    split <;> omega
  · omega
end
end Mm
set_option Elab.async false
set_option linter.all false
set_option maxRecDepth 100000
set_option maxHeartbeats 1000000
/-! M3: what the operations do to soundness and to the cells of the live objects. No program. -/
namespace Mm
open PySem PySem.Spec PyProof.Rows L2 Evl Pd Wl
/-- the values of a slot's object -/
def cont (m : Mem) (i : Nat) : List PyData := (List.range (m.row i).size.toNat).map fun (k : Nat) => if (k : Int) < (m.row i).filled then m.peek (spot (m.row i) k) else .none
def Lv (m : Mem) (i : Nat) : Prop := i < m.rows.length ∧ (m.row i).live = true
theorem cont_len {m : Mem} {i : Nat} : (cont m i).length = (m.row i).size.toNat := by simp [cont]
theorem cont_get {m : Mem} {i k : Nat} (h : (k : Int) < (m.row i).size) : (cont m i)[k]? = some (if (k : Int) < (m.row i).filled then m.peek (spot (m.row i) k) else .none) := by
  have : k < (m.row i).size.toNat := by omega
  simp [cont, this]
theorem spot_lo {e : Int} {r : Row} (R : RowOk e r) {k : Int} (h0 : 0 ≤ k) (hk : k < r.size) : lo r ≤ spot r k ∧ spot r k < hi r := by
  unfold spot lo hi
  split
  · next t et =>
    obtain ⟨a, b, c⟩ := R.to t et
    rw [et]
    simp only [Option.getD_some]
    split <;> omega
  · next et =>
    rw [et]
    simp only [Option.getD_none]
    omega
theorem spot_inj {e : Int} {r : Row} (R : RowOk e r) {k l : Int} (h0 : 0 ≤ k) (hk : k < r.size) (l0 : 0 ≤ l) (hl : l < r.size) (h : spot r k = spot r l) : k = l := by
  unfold spot at h
  split at h
  · next t et =>
    obtain ⟨a, b, c⟩ := R.to t et
    split at h <;> split at h <;> omega
  · omega
theorem spot_ne {m : Mem} (S : Snd m) {i j : Nat} (hi : Lv m i) (hj : Lv m j) {k l : Int} (h0 : 0 ≤ k) (hk : k < (m.row i).size) (l0 : 0 ≤ l) (hl : l < (m.row j).size) (h : spot (m.row i) k = spot (m.row j) l) : i = j ∧ k = l := by
  by_cases c : i = j
  · subst c
    exact ⟨rfl, spot_inj (S.row _ hi.1 hi.2) h0 hk l0 hl h⟩
  · exfalso
    have a := spot_lo (S.row _ hi.1 hi.2) h0 hk
    have b := spot_lo (S.row _ hj.1 hj.2) l0 hl
    have d := S.dis i j hi.1 hj.1 c hi.2 hj.2
    omega
theorem peek_poke_ne {m : Mem} {a b : Int} {d : PyData} (h0 : 0 ≤ a) (h1 : 0 ≤ b) (h : a ≠ b) : (m.poke a d).peek b = m.peek b := by
  have : a.toNat ≠ b.toNat := by omega
  simp [Mem.poke, Mem.peek, List.getD, List.getElem?_set_ne this]
theorem peek_poke {m : Mem} {a : Int} {d : PyData} (h : 0 ≤ a) (h2 : a < (m.ar.length : Nat)) : (m.poke a d).peek a = d := by
  have : a.toNat < m.ar.length := by omega
  simp [Mem.poke, Mem.peek, List.getD, this]
@[simp] theorem poke_row {m : Mem} {a : Int} {d : PyData} {i : Nat} : (m.poke a d).row i = m.row i := rfl
@[simp] theorem poke_rows {m : Mem} {a : Int} {d : PyData} : (m.poke a d).rows = m.rows := rfl
@[simp] theorem poke_e {m : Mem} {a : Int} {d : PyData} : (m.poke a d).e = m.e := rfl
@[simp] theorem poke_len {m : Mem} {a : Int} {d : PyData} : (m.poke a d).ar.length = m.ar.length := by simp [Mem.poke]
@[simp] theorem put_rows {m : Mem} {i : Nat} {r : Row} : (m.put i r).rows.length = m.rows.length := by simp [Mem.put]
@[simp] theorem put_e {m : Mem} {i : Nat} {r : Row} : (m.put i r).e = m.e := rfl
@[simp] theorem put_ar {m : Mem} {i : Nat} {r : Row} : (m.put i r).ar = m.ar := rfl
@[simp] theorem put_peek {m : Mem} {i : Nat} {r : Row} {a : Int} : (m.put i r).peek a = m.peek a := rfl
theorem Snd.poke {m : Mem} (S : Snd m) (a : Int) (d : PyData) : Snd (m.poke a d) := ⟨S.e0, by rw [poke_len]; exact S.eL, S.rc, by rw [poke_len]; exact S.ac, S.row, S.one, S.dis⟩
/-- a row is changed -/
theorem Snd.put {m : Mem} (S : Snd m) {i : Nat} (hI : i < m.rows.length) {r : Row} (hr : r.live = true → RowOk m.e r) (h1 : r.live = true → r.to.isSome = true → ∀ j, Lv m j → j ≠ i → (m.row j).to = none)
    (hd : r.live = true → ∀ j, Lv m j → j ≠ i → Mm.hi r ≤ lo (m.row j) ∨ Mm.hi (m.row j) ≤ lo r) : Snd (m.put i r) := by
  have rw1 : ∀ j, (m.put i r).row j = if j = i then r else m.row j := fun j => by
    by_cases c : j = i
    · subst c; rw [if_pos rfl, row_put_eq hI]
    · rw [if_neg c, row_put_ne (Ne.symm c)]
  refine ⟨S.e0, S.eL, by rw [put_rows]; exact S.rc, S.ac, fun j hj hl => ?_, fun j k hj hk lj lk tj tk => ?_, fun j k hj hk ne lj lk => ?_⟩
  · rw [rw1] at hl ⊢
    rw [put_rows] at hj
    split
    · next c => rw [if_pos c] at hl; exact hr hl
    · next c => rw [if_neg c] at hl; exact S.row j hj hl
  · rw [rw1] at lj tj
    rw [rw1] at lk tk
    rw [put_rows] at hj hk
    by_cases cj : j = i <;> by_cases ck : k = i
    · rw [cj, ck]
    · rw [if_pos cj] at lj tj; rw [if_neg ck] at lk tk
      have := h1 lj tj k ⟨hk, lk⟩ ck
      rw [this] at tk; cases tk
    · rw [if_neg cj] at lj tj; rw [if_pos ck] at lk tk
      have := h1 lk tk j ⟨hj, lj⟩ cj
      rw [this] at tj; cases tj
    · rw [if_neg cj] at lj tj; rw [if_neg ck] at lk tk
      exact S.one j k hj hk lj lk tj tk
  · rw [rw1] at lj
    rw [rw1] at lk
    rw [put_rows] at hj hk
    rw [rw1, rw1]
    by_cases cj : j = i <;> by_cases ck : k = i
    · exact absurd (cj.trans ck.symm) ne
    · rw [if_pos cj] at lj ⊢; rw [if_neg ck] at lk ⊢
      exact hd lj k ⟨hk, lk⟩ ck
    · rw [if_neg cj] at lj ⊢; rw [if_pos ck] at lk ⊢
      exact (hd lk j ⟨hj, lj⟩ cj).symm
    · rw [if_neg cj] at lj ⊢; rw [if_neg ck] at lk ⊢
      exact S.dis j k hj hk ne lj lk
/-! ### the slots -/
theorem mover_none {m : Mem} (h : mover m = none) : ∀ i, Lv m i → (m.row i).to = none := fun i hi => by
  unfold mover at h
  rw [List.findIdx?_eq_none_iff] at h
  have e : m.row i = m.rows[i]'hi.1 := by simp [Mem.row, List.getD, hi.1]
  have := h _ (List.getElem_mem hi.1)
  rw [← e, hi.2] at this
  simpa using this
theorem mover_some {m : Mem} {i : Nat} (h : mover m = some i) : Lv m i ∧ (m.row i).to.isSome = true := by
  unfold mover at h
  rw [List.findIdx?_eq_some_iff_getElem] at h
  obtain ⟨hi, q, _⟩ := h
  have e : m.row i = m.rows[i] := by simp [Mem.row, List.getD, hi]
  rw [← e] at q
  simp at q
  exact ⟨⟨hi, q.1⟩, by simpa using q.2⟩
theorem mover_of {m : Mem} (S : Snd m) {i : Nat} (hi : Lv m i) (ht : (m.row i).to.isSome = true) : mover m = some i := by
  cases c : mover m with
  | none => rw [mover_none c i hi] at ht; cases ht
  | some j =>
    obtain ⟨a, b⟩ := mover_some c
    rw [S.one j i a.1 hi.1 a.2 hi.2 b ht]
theorem dead_some {m : Mem} {i : Nat} (h : dead m = some i) : i < m.rows.length ∧ (m.row i).live = false := by
  unfold dead at h
  rw [List.findIdx?_eq_some_iff_getElem] at h
  obtain ⟨hi, q, _⟩ := h
  have e : m.row i = m.rows[i] := by simp [Mem.row, List.getD, hi]
  rw [← e] at q
  exact ⟨hi, by simpa using q⟩
theorem dead_of {m : Mem} {s : Int} (h : fits m s = true) : ∃ i, dead m = some i := by
  cases c : dead m with
  | some i => exact ⟨i, rfl⟩
  | none =>
    exfalso
    unfold dead at c
    rw [List.findIdx?_eq_none_iff] at c
    have : liveN m = m.rows.length := by
      unfold liveN
      rw [List.filter_eq_self.mpr]
      intro r hr
      simpa using c r hr
    simp [fits, this] at h
theorem any_no {m : Mem} {f : Row → Bool} (h : m.rows.any f = false) {i : Nat} (hi : i < m.rows.length) : f (m.row i) = false := by
  rw [List.any_eq_false] at h
  have e : m.row i = m.rows[i] := by simp [Mem.row, List.getD, hi]
  rw [e]
  simpa using h _ (List.getElem_mem hi)
/-! ### cells that stay -/
theorem cont_put_ne {m : Mem} {i j : Nat} {r : Row} (h : i ≠ j) : cont (m.put i r) j = cont m j := by
  unfold cont
  rw [row_put_ne h]
  rfl
/-- written where the object has no filled cell -/
theorem cont_poke {m : Mem} {j : Nat} {a : Int} {d : PyData} (h : ∀ k : Nat, (k : Int) < (m.row j).size → (k : Int) < (m.row j).filled → (m.poke a d).peek (spot (m.row j) k) = m.peek (spot (m.row j) k)) : cont (m.poke a d) j = cont m j := by
  unfold cont
  refine List.map_congr_left fun k hk => ?_
  have hk : k < (m.row j).size.toNat := List.mem_range.mp hk
  show (if (k : Int) < (m.row j).filled then (m.poke a d).peek (spot (m.row j) k) else .none) = _
  by_cases c : (k : Int) < (m.row j).filled
  · rw [if_pos c, if_pos c, h k (by omega) c]
  · rw [if_neg c, if_neg c]
/-- what an operation leaves -/
structure Kept (m m' : Mem) : Prop where
  snd : Snd m'
  rl : m'.rows.length = m.rows.length
  al : m'.ar.length = m.ar.length
theorem Kept.lv {m m' : Mem} (k : Kept m m') {i : Nat} (h : (m'.row i).live = (m.row i).live) : Lv m' i ↔ Lv m i := by unfold Lv; rw [k.rl, h]
theorem put_live {m : Mem} {i j : Nat} {r : Row} (hi : i < m.rows.length) (h : r.live = (m.row i).live) : ((m.put i r).row j).live = (m.row j).live := by
  by_cases c : i = j
  · subst c; rw [row_put_eq hi, h]
  · rw [row_put_ne c]
theorem put_stamp {m : Mem} {i j : Nat} {r : Row} (hi : i < m.rows.length) (h : r.stamp = (m.row i).stamp) : ((m.put i r).row j).stamp = (m.row j).stamp := by
  by_cases c : i = j
  · subst c; rw [row_put_eq hi, h]
  · rw [row_put_ne c]
section
variable {m : Mem} {i : Nat}
/-- write -/
theorem write_kept (S : Snd m) (a : Int) (v : PyData) : Kept m (m.poke a v) := ⟨S.poke a v, rfl, poke_len⟩
theorem write_cont (S : Snd m) (h : Lv m i) {k : Nat} (hk : (k : Int) < (m.row i).filled) (v : PyData) : ∀ j, Lv m j → cont (m.poke (spot (m.row i) k) v) j = if j = i then (cont m i).set k v else cont m j := fun j hj => by
  have R := S.row i h.1 h.2
  have hks : (k : Int) < (m.row i).size := by have := R.fil; omega
  have sp := S.spot h.1 h.2 (by omega : (0 : Int) ≤ k) hks
  by_cases c : j = i
  · subst c
    rw [if_pos rfl]
    refine List.ext_getElem? fun l => ?_
    rcases Nat.lt_or_ge l (m.row j).size.toNat with hl | hl
    · have hl' : (l : Int) < (m.row j).size := by omega
      rw [cont_get (m := m.poke _ _) (by exact hl')]
      show some (if (l : Int) < (m.row j).filled then (m.poke (spot (m.row j) k) v).peek (spot (m.row j) l) else .none) = _
      by_cases q : k = l
      · subst q
        rw [if_pos hk, peek_poke sp.1 sp.2, List.getElem?_set_self (by rw [cont_len]; exact hl)]
      · rw [List.getElem?_set_ne q, cont_get hl']
        have sl := S.spot hj.1 hj.2 (by omega : (0 : Int) ≤ l) hl'
        by_cases f : (l : Int) < (m.row j).filled
        · rw [if_pos f, if_pos f, peek_poke_ne sp.1 sl.1 (fun z => q (by have := (spot_ne S h hj (by omega) hks (by omega) hl' z).2; omega))]
        · rw [if_neg f, if_neg f]
    · rw [List.getElem?_eq_none (by rw [cont_len]; exact hl), List.getElem?_eq_none (by rw [List.length_set, cont_len]; exact hl)]
  · rw [if_neg c]
    refine cont_poke fun l hl _ => ?_
    have sl := S.spot hj.1 hj.2 (by omega : (0 : Int) ≤ l) hl
    exact peek_poke_ne sp.1 sl.1 fun z => c (spot_ne S h hj (by omega) hks (by omega) hl z).1.symm
theorem live_put_same (hi : i < m.rows.length) {r : Row} (hl : r.live = true) (h : (m.row i).live = true) (j : Nat) : ((m.put i r).row j).live = (m.row j).live := put_live hi (by rw [hl, h])
/-- fill -/
theorem fill_kept (S : Snd m) (h : Lv m i) (hf : (m.row i).filled ≠ (m.row i).size) (a : Int) (v : PyData) : Kept m ((m.poke a v).put i { m.row i with filled := (m.row i).filled + 1 }) := by
  have R := S.row i h.1 h.2
  refine ⟨(S.poke a v).put h.1 (fun _ => ⟨R.size, by have := R.fil0; show 0 ≤ (m.row i).filled + 1; omega, by have := R.fil; show (m.row i).filled + 1 ≤ (m.row i).size; omega, R.st0, R.hi, R.dn0, R.dnN, R.to⟩) (fun _ t j hj ne => ?_) (fun _ j hj ne => ?_), by simp, by simp⟩
  · cases q : ((m.poke a v).row j).to with
    | none => rfl
    | some x => exact absurd (S.one j i hj.1 h.1 hj.2 h.2 (by rw [show (m.row j).to = some x from q]; rfl) t) ne
  · exact S.dis i j h.1 hj.1 (Ne.symm ne) h.2 hj.2
theorem fill_cont (S : Snd m) (h : Lv m i) (hf : (m.row i).filled ≠ (m.row i).size) : ∀ j, Lv m j → cont ((m.poke (spot (m.row i) (m.row i).filled) .none).put i { m.row i with filled := (m.row i).filled + 1 }) j = cont m j := fun j hj => by
  have R := S.row i h.1 h.2
  have f0 := R.fil0
  have f1 := R.fil
  have sp := S.spot h.1 h.2 f0 (by omega)
  by_cases c : i = j
  · subst c
    unfold cont
    rw [row_put_eq (by simpa using h.1)]
    refine List.map_congr_left fun l hl => ?_
    have hl := List.mem_range.mp hl
    show (if (l : Int) < (m.row i).filled + 1 then (m.poke (spot (m.row i) (m.row i).filled) .none).peek (spot (m.row i) l) else .none) = _
    have hl' : (l : Int) < (m.row i).size := by simp only at hl; omega
    have sl := S.spot h.1 h.2 (by omega : (0 : Int) ≤ l) hl'
    by_cases q : (l : Int) < (m.row i).filled
    · rw [if_pos q, if_pos (by omega), peek_poke_ne sp.1 sl.1 fun z => by have := (spot_ne S h h f0 (by omega) (by omega) hl' z).2; omega]
    · rw [if_neg q]
      by_cases q2 : (l : Int) < (m.row i).filled + 1
      · have e : (l : Int) = (m.row i).filled := by omega
        rw [if_pos q2, e, peek_poke sp.1 sp.2]
      · rw [if_neg q2]
  · rw [cont_put_ne c]
    refine cont_poke fun l hl _ => ?_
    have sl := S.spot hj.1 hj.2 (by omega : (0 : Int) ≤ l) hl
    exact peek_poke_ne sp.1 sl.1 fun z => c (spot_ne S h hj f0 (by omega) (by omega) hl z).1
/-- free -/
theorem free_kept (S : Snd m) (h : Lv m i) (st : Int) : Kept m (m.put i { m.row i with live := false, stamp := st }) :=
  ⟨S.put h.1 (fun z => nomatch z) (fun z => nomatch z) (fun z => nomatch z), by simp, rfl⟩
/-- reserve -/
theorem reserve_kept (S : Snd m) (hi : i < m.rows.length) (hd : (m.row i).live = false) {s : Int} (s1 : 1 ≤ s) (hs : m.e + s ≤ (m.ar.length : Nat)) (st : Int) (mk : Int) (bl : Bool) : Kept m { (m.put i ⟨st, true, s, m.e, 0, none, 0, mk, bl⟩) with e := m.e + s } := by
  have S1 : Snd { m with e := m.e + s } := ⟨by have := S.e0; show 0 ≤ m.e + s; omega, hs, S.rc, S.ac, fun j hj hl => by
    have R := S.row j hj hl
    exact ⟨R.size, R.fil0, R.fil, R.st0, by have := R.hi; show (m.row j).start + (m.row j).size ≤ m.e + s; omega, R.dn0, R.dnN, R.to⟩, S.one, S.dis⟩
  have e0 := S.e0
  have S2 := S1.put (i := i) (r := ⟨st, true, s, m.e, 0, none, 0, mk, bl⟩) hi (fun _ => ⟨s1, Int.le_refl _, by show (0 : Int) ≤ s; omega, e0, Int.le_refl _, Int.le_refl _, fun _ => rfl, fun t z => nomatch z⟩) (fun _ z => nomatch z) fun _ j hj ne => .inr (by
    have R := S.row j hj.1 hj.2
    exact R.hi)
  exact ⟨S2, by simp, rfl⟩
theorem reserve_cont (hi : i < m.rows.length) {s : Int} (st mk : Int) (bl : Bool) : ∀ j, cont { (m.put i ⟨st, true, s, m.e, 0, none, 0, mk, bl⟩) with e := m.e + s } j = if j = i then List.replicate s.toNat .none else cont m j := fun j => by
  by_cases c : j = i
  · subst c
    rw [if_pos rfl]
    have e : (({ (m.put j ⟨st, true, s, m.e, 0, none, 0, mk, bl⟩) with e := m.e + s } : Mem).row j) = ⟨st, true, s, m.e, 0, none, 0, mk, bl⟩ := row_put_eq hi
    unfold cont
    rw [e]
    refine List.ext_getElem (by simp) fun k h1 h2 => ?_
    have : ¬ ((k : Int) < 0) := by omega
    simp [this]
  · rw [if_neg c]
    exact cont_put_ne (Ne.symm c)
/-- begin_move -/
theorem begin_kept (S : Snd m) (h : Lv m i) (hm : mover m = none) {t : Int} (t0 : 0 ≤ t) (ht : t < (m.row i).start) (hs : ∀ j, Lv m j → (m.row j).start < (m.row i).start → (m.row j).start + (m.row j).size ≤ t) : Kept m (m.put i { m.row i with to := some t, done := 0 }) := by
  have R := S.row i h.1 h.2
  refine ⟨S.put h.1 (fun _ => ⟨R.size, R.fil0, R.fil, R.st0, R.hi, Int.le_refl _, (fun z => nomatch z), (fun t' z => by cases z; exact ⟨t0, ht, by have := R.size; show (0 : Int) ≤ (m.row i).size; omega⟩)⟩) (fun _ _ j hj _ => mover_none hm j hj) (fun _ j hj ne => ?_), by simp, rfl⟩
  have d := S.dis i j h.1 hj.1 (Ne.symm ne) h.2 hj.2
  have nj := mover_none hm j hj
  have ni := mover_none hm i h
  have Rj := S.row j hj.1 hj.2
  have z := Rj.size
  have z2 := R.size
  unfold hi lo at d ⊢
  rw [ni, nj] at d
  simp only [Option.getD_none] at d
  rw [nj]
  simp only [Option.getD_none, Option.getD_some]
  rcases Int.lt_or_le (m.row j).start (m.row i).start with q | q
  · exact .inr (hs j hj q)
  · exact .inl (by omega)
theorem begin_cont (h : Lv m i) (hn : (m.row i).to = none) (t : Int) : ∀ j, cont (m.put i { m.row i with to := some t, done := 0 }) j = cont m j := fun j => by
  by_cases c : i = j
  · subst c
    unfold cont
    rw [row_put_eq h.1]
    refine List.map_congr_left fun l hl => ?_
    have : ¬ ((l : Int) < 0) := by omega
    simp [spot, hn, this]
  · exact cont_put_ne c
/-- copy_cell -/
theorem copy_kept (S : Snd m) (h : Lv m i) {t : Int} (ht : (m.row i).to = some t) (hd : (m.row i).done ≠ (m.row i).size) (a : Int) (v : PyData) : Kept m ((m.poke a v).put i { m.row i with done := (m.row i).done + 1 }) := by
  have R := S.row i h.1 h.2
  have d0 := R.dn0
  obtain ⟨t0, t1, t2⟩ := R.to t ht
  refine ⟨(S.poke a v).put h.1 (fun _ => ⟨R.size, R.fil0, R.fil, R.st0, R.hi, by show 0 ≤ (m.row i).done + 1; omega, (fun z => by rw [show (m.row i).to = none from z] at ht; cases ht), (fun t' z => by rw [show (m.row i).to = some t' from z] at ht; cases ht; exact ⟨t0, t1, by show (m.row i).done + 1 ≤ (m.row i).size; omega⟩)⟩) (fun _ tt j hj ne => ?_) (fun _ j hj ne => S.dis i j h.1 hj.1 (Ne.symm ne) h.2 hj.2), by simp, by simp⟩
  cases q : ((m.poke a v).row j).to with
  | none => rfl
  | some x => exact absurd (S.one j i hj.1 h.1 hj.2 h.2 (by rw [show (m.row j).to = some x from q]; rfl) tt) ne
theorem copy_cont (S : Snd m) (h : Lv m i) {t : Int} (ht : (m.row i).to = some t) (hd : (m.row i).done ≠ (m.row i).size) : ∀ j, Lv m j → cont ((m.poke (t + (m.row i).done) (m.peek ((m.row i).start + (m.row i).done))).put i { m.row i with done := (m.row i).done + 1 }) j = cont m j := fun j hj => by
  have R := S.row i h.1 h.2
  have d0 := R.dn0
  obtain ⟨t0, t1, t2⟩ := R.to t ht
  have hiR := R.hi
  have eL := S.eL
  by_cases c : i = j
  · subst c
    unfold cont
    rw [row_put_eq (by simpa using h.1)]
    refine List.map_congr_left fun l hl => ?_
    have hl := List.mem_range.mp hl
    have hl' : (l : Int) < (m.row i).size := by simp only at hl; omega
    simp only [spot, ht]
    by_cases f : (l : Int) < (m.row i).filled
    · rw [if_pos f, if_pos f]
      show (m.poke (t + (m.row i).done) (m.peek ((m.row i).start + (m.row i).done))).peek (if (l : Int) < (m.row i).done + 1 then t + l else (m.row i).start + l) = m.peek (if (l : Int) < (m.row i).done then t + l else (m.row i).start + l)
      rcases Int.lt_trichotomy (l : Int) (m.row i).done with q | q | q
      · rw [if_pos (by omega), if_pos q, peek_poke_ne (by omega) (by omega) (by omega)]
      · rw [if_pos (by omega), if_neg (by omega), q, peek_poke (by omega) (by omega)]
      · rw [if_neg (by omega), if_neg (by omega), peek_poke_ne (by omega) (by omega) (by omega)]
    · rw [if_neg f, if_neg f]
  · rw [cont_put_ne c]
    refine cont_poke fun l hl _ => ?_
    have sl := S.spot hj.1 hj.2 (by omega : (0 : Int) ≤ l) hl
    have sb := spot_lo (S.row j hj.1 hj.2) (by omega : (0 : Int) ≤ l) hl
    have d := S.dis i j h.1 hj.1 c h.2 hj.2
    have e1 : lo (m.row i) = t := by unfold lo; rw [ht]; rfl
    have e2 : hi (m.row i) = (m.row i).start + (m.row i).size := rfl
    exact peek_poke_ne (by omega) sl.1 (by omega)
/-- turn -/
theorem turn_kept (S : Snd m) (h : Lv m i) {t : Int} (ht : (m.row i).to = some t) : Kept m (m.put i { m.row i with start := t, to := none, done := 0 }) := by
  have R := S.row i h.1 h.2
  obtain ⟨t0, t1, t2⟩ := R.to t ht
  have z := R.size
  refine ⟨S.put h.1 (fun _ => ⟨R.size, R.fil0, R.fil, t0, by have := R.hi; show t + (m.row i).size ≤ m.e; omega, Int.le_refl _, fun _ => rfl, fun t' z => nomatch z⟩) (fun _ z => nomatch z) (fun _ j hj ne => ?_), by simp, rfl⟩
  have d := S.dis i j h.1 hj.1 (Ne.symm ne) h.2 hj.2
  unfold hi lo at d ⊢
  rw [ht] at d
  simp only [Option.getD_none, Option.getD_some] at d ⊢
  omega
theorem turn_cont (S : Snd m) (h : Lv m i) {t : Int} (ht : (m.row i).to = some t) (hd : ¬ (m.row i).done < (m.row i).size) : ∀ j, cont (m.put i { m.row i with start := t, to := none, done := 0 }) j = cont m j := fun j => by
  by_cases c : i = j
  · subst c
    unfold cont
    rw [row_put_eq h.1]
    refine List.map_congr_left fun l hl => ?_
    have hl := List.mem_range.mp hl
    have hl' : (l : Int) < (m.row i).size := by simp only at hl; omega
    have : (l : Int) < (m.row i).done := by omega
    simp [spot, ht, this]
  · exact cont_put_ne c
/-- settle -/
theorem settle_kept (S : Snd m) {f : Int} (f0 : 0 ≤ f) (hf : f ≤ m.e) (hm : mover m = none) (hs : ∀ j, Lv m j → (m.row j).start + (m.row j).size ≤ f) : Kept m { m with e := f } :=
  ⟨⟨f0, by have := S.eL; show f ≤ (m.ar.length : Nat); omega, S.rc, S.ac, fun j hj hl => by
    have R := S.row j hj hl
    exact ⟨R.size, R.fil0, R.fil, R.st0, hs j ⟨hj, hl⟩, R.dn0, R.dnN, R.to⟩, S.one, S.dis⟩, rfl, rfl⟩
end
end Mm
set_option Elab.async false
set_option linter.all false
set_option maxRecDepth 100000
set_option maxHeartbeats 4000000
namespace K15
open PySem PySem.Spec PyProof.Rows L2 Evl Pd
def topS (i : Nat) : Stmt := PySem.Challenge.pw_gleanworld_k15_whole_restored_goes_on.main.body.getD i (.Pass ⟨0, 0, 0, 0⟩)
abbrev st_is_integer : Stmt := topS 12
theorem sc_is_integer : FnScope ["value"] ["value"] (defScope st_is_integer) := ⟨rfl, rfl, rfl, by decide +kernel, rfl, by decide +kernel, by decide +kernel⟩
abbrev st_is_count : Stmt := topS 13
theorem sc_is_count : FnScope ["value"] ["value"] (defScope st_is_count) := ⟨rfl, rfl, rfl, by decide +kernel, rfl, by decide +kernel, by decide +kernel⟩
abbrev st_is_handle : Stmt := topS 14
theorem sc_is_handle : FnScope ["value"] ["value"] (defScope st_is_handle) := ⟨rfl, rfl, rfl, by decide +kernel, rfl, by decide +kernel, by decide +kernel⟩
abbrev st_is_value : Stmt := topS 15
theorem sc_is_value : FnScope ["value"] ["value"] (defScope st_is_value) := ⟨rfl, rfl, rfl, by decide +kernel, rfl, by decide +kernel, by decide +kernel⟩
abbrev st_Entry_init : Stmt := inClass (topS 17) 0
theorem sc_Entry_init : FnScope ["self"] ["self"] (defScope st_Entry_init) := ⟨rfl, rfl, rfl, by decide +kernel, rfl, by decide +kernel, by decide +kernel⟩
abbrev st_Entry_row : Stmt := inClass (topS 17) 1
theorem sc_Entry_row : FnScope ["self"] ["self"] (defScope st_Entry_row) := ⟨rfl, rfl, rfl, by decide +kernel, rfl, by decide +kernel, by decide +kernel⟩
abbrev st_Entry_high : Stmt := inClass (topS 17) 2
theorem sc_Entry_high : FnScope ["self"] ["self"] (defScope st_Entry_high) := ⟨rfl, rfl, rfl, by decide +kernel, rfl, by decide +kernel, by decide +kernel⟩
abbrev st_Memory_init : Stmt := inClass (topS 18) 0
theorem sc_Memory_init : FnScope ["self", "cells", "slots", "_"] ["self", "cells", "slots"] (defScope st_Memory_init) := ⟨rfl, rfl, rfl, by decide +kernel, rfl, by decide +kernel, by decide +kernel⟩
abbrev st_Memory_cells : Stmt := inClass (topS 18) 1
theorem sc_Memory_cells : FnScope ["self"] ["self"] (defScope st_Memory_cells) := ⟨rfl, rfl, rfl, by decide +kernel, rfl, by decide +kernel, by decide +kernel⟩
abbrev st_Memory_slots : Stmt := inClass (topS 18) 2
theorem sc_Memory_slots : FnScope ["self"] ["self"] (defScope st_Memory_slots) := ⟨rfl, rfl, rfl, by decide +kernel, rfl, by decide +kernel, by decide +kernel⟩
abbrev st_Memory_end : Stmt := inClass (topS 18) 3
theorem sc_Memory_end : FnScope ["self"] ["self"] (defScope st_Memory_end) := ⟨rfl, rfl, rfl, by decide +kernel, rfl, by decide +kernel, by decide +kernel⟩
abbrev st_Memory_live : Stmt := inClass (topS 18) 4
theorem sc_Memory_live : FnScope ["self", "entry"] ["self"] (defScope st_Memory_live) := ⟨rfl, rfl, rfl, by decide +kernel, rfl, by decide +kernel, by decide +kernel⟩
abbrev st_Memory_entry_at : Stmt := inClass (topS 18) 5
theorem sc_Memory_entry_at : FnScope ["self", "slot"] ["self", "slot"] (defScope st_Memory_entry_at) := ⟨rfl, rfl, rfl, by decide +kernel, rfl, by decide +kernel, by decide +kernel⟩
abbrev st_Memory_entry : Stmt := inClass (topS 18) 6
theorem sc_Memory_entry : FnScope ["self", "handle"] ["self", "handle"] (defScope st_Memory_entry) := ⟨rfl, rfl, rfl, by decide +kernel, rfl, by decide +kernel, by decide +kernel⟩
abbrev st_Memory_is_live : Stmt := inClass (topS 18) 7
theorem sc_Memory_is_live : FnScope ["self", "handle"] ["self", "handle"] (defScope st_Memory_is_live) := ⟨rfl, rfl, rfl, by decide +kernel, rfl, by decide +kernel, by decide +kernel⟩
abbrev st_Memory_fits : Stmt := inClass (topS 18) 9
theorem sc_Memory_fits : FnScope ["self", "size"] ["self", "size"] (defScope st_Memory_fits) := ⟨rfl, rfl, rfl, by decide +kernel, rfl, by decide +kernel, by decide +kernel⟩
abbrev st_Memory_reserve : Stmt := inClass (topS 18) 10
theorem sc_Memory_reserve : FnScope ["self", "size", "slot", "entry", "index"] ["self", "size"] (defScope st_Memory_reserve) := ⟨rfl, rfl, rfl, by decide +kernel, rfl, by decide +kernel, by decide +kernel⟩
abbrev st_Memory_spot : Stmt := inClass (topS 18) 11
theorem sc_Memory_spot : FnScope ["self", "entry", "k"] ["self", "entry", "k"] (defScope st_Memory_spot) := ⟨rfl, rfl, rfl, by decide +kernel, rfl, by decide +kernel, by decide +kernel⟩
abbrev st_Memory_fill : Stmt := inClass (topS 18) 12
theorem sc_Memory_fill : FnScope ["self", "handle", "entry"] ["self", "handle"] (defScope st_Memory_fill) := ⟨rfl, rfl, rfl, by decide +kernel, rfl, by decide +kernel, by decide +kernel⟩
abbrev st_Memory_size : Stmt := inClass (topS 18) 14
theorem sc_Memory_size : FnScope ["self", "handle"] ["self", "handle"] (defScope st_Memory_size) := ⟨rfl, rfl, rfl, by decide +kernel, rfl, by decide +kernel, by decide +kernel⟩
abbrev st_Memory_read : Stmt := inClass (topS 18) 15
theorem sc_Memory_read : FnScope ["self", "handle", "k", "entry"] ["self", "handle", "k"] (defScope st_Memory_read) := ⟨rfl, rfl, rfl, by decide +kernel, rfl, by decide +kernel, by decide +kernel⟩
abbrev st_Memory_write : Stmt := inClass (topS 18) 16
theorem sc_Memory_write : FnScope ["self", "handle", "k", "value", "entry", "spot", "old"] ["self", "handle", "k", "value"] (defScope st_Memory_write) := ⟨rfl, rfl, rfl, by decide +kernel, rfl, by decide +kernel, by decide +kernel⟩
abbrev st_Memory_free : Stmt := inClass (topS 18) 21
theorem sc_Memory_free : FnScope ["self", "slot", "entry"] ["self", "slot"] (defScope st_Memory_free) := ⟨rfl, rfl, rfl, by decide +kernel, rfl, by decide +kernel, by decide +kernel⟩
abbrev st_Memory_start : Stmt := inClass (topS 18) 22
theorem sc_Memory_start : FnScope ["self", "slot"] ["self", "slot"] (defScope st_Memory_start) := ⟨rfl, rfl, rfl, by decide +kernel, rfl, by decide +kernel, by decide +kernel⟩
abbrev st_Memory_place : Stmt := inClass (topS 18) 23
theorem sc_Memory_place : FnScope ["self", "handle", "k", "entry"] ["self", "handle", "k"] (defScope st_Memory_place) := ⟨rfl, rfl, rfl, by decide +kernel, rfl, by decide +kernel, by decide +kernel⟩
abbrev st_Memory_moving : Stmt := inClass (topS 18) 24
theorem sc_Memory_moving : FnScope ["self", "slot", "entry"] ["self"] (defScope st_Memory_moving) := ⟨rfl, rfl, rfl, by decide +kernel, rfl, by decide +kernel, by decide +kernel⟩
abbrev st_Memory_begin_move : Stmt := inClass (topS 18) 25
theorem sc_Memory_begin_move : FnScope ["self", "slot", "to", "entry", "other"] ["self", "slot", "to"] (defScope st_Memory_begin_move) := ⟨rfl, rfl, rfl, by decide +kernel, rfl, by decide +kernel, by decide +kernel⟩
abbrev st_Memory_copy_cell : Stmt := inClass (topS 18) 26
theorem sc_Memory_copy_cell : FnScope ["self", "slot", "entry"] ["self", "slot"] (defScope st_Memory_copy_cell) := ⟨rfl, rfl, rfl, by decide +kernel, rfl, by decide +kernel, by decide +kernel⟩
abbrev st_Memory_turn : Stmt := inClass (topS 18) 27
theorem sc_Memory_turn : FnScope ["self", "slot", "entry"] ["self", "slot"] (defScope st_Memory_turn) := ⟨rfl, rfl, rfl, by decide +kernel, rfl, by decide +kernel, by decide +kernel⟩
abbrev st_Memory_settle : Stmt := inClass (topS 18) 28
theorem sc_Memory_settle : FnScope ["self", "frontier", "entry"] ["self", "frontier"] (defScope st_Memory_settle) := ⟨rfl, rfl, rfl, by decide +kernel, rfl, by decide +kernel, by decide +kernel⟩
abbrev st_Memory_state : Stmt := inClass (topS 18) 29
theorem sc_Memory_state : FnScope ["self", "entry"] ["self"] (defScope st_Memory_state) := ⟨rfl, rfl, rfl, by decide +kernel, rfl, by decide +kernel, by decide +kernel⟩
abbrev st_Memory_take : Stmt := inClass (topS 18) 30
theorem sc_Memory_take : FnScope ["self", "state", "arena", "rows", "entry", "row"] ["self", "state"] (defScope st_Memory_take) := ⟨rfl, rfl, rfl, by decide +kernel, rfl, by decide +kernel, by decide +kernel⟩
abbrev st_is_row : Stmt := topS 19
theorem sc_is_row : FnScope ["value", "stamp", "live", "size", "start", "filled", "to", "done", "mark", "black", "number"] ["value"] (defScope st_is_row) := ⟨rfl, rfl, rfl, by decide +kernel, rfl, by decide +kernel, by decide +kernel⟩
abbrev st_is_sound : Stmt := topS 20
theorem sc_is_sound : FnScope ["rows", "end", "spans", "movers", "_", "live", "size", "start", "filled", "to", "done", "one", "other"] ["rows", "end"] (defScope st_is_sound) := ⟨rfl, rfl, rfl, by decide +kernel, rfl, by decide +kernel, by decide +kernel⟩
abbrev st_is_state : Stmt := topS 21
theorem sc_is_state : FnScope ["value", "arena", "rows", "end", "item", "row"] ["value"] (defScope st_is_state) := ⟨rfl, rfl, rfl, by decide +kernel, rfl, by decide +kernel, by decide +kernel⟩
abbrev st_restored : Stmt := topS 22
theorem sc_restored : FnScope ["state", "memory"] ["state"] (defScope st_restored) := ⟨rfl, rfl, rfl, by decide +kernel, rfl, by decide +kernel, by decide +kernel⟩
abbrev st__law_cell : Stmt := topS 24
theorem sc__law_cell : FnScope ["script", "k"] ["script", "k"] (defScope st__law_cell) := ⟨rfl, rfl, rfl, by decide +kernel, rfl, by decide +kernel, by decide +kernel⟩
abbrev st__law_rich : Stmt := topS 25
theorem sc__law_rich : FnScope ["cell", "k", "rich", "mixed", "turn"] ["cell", "k"] (defScope st__law_rich) := ⟨rfl, rfl, rfl, by decide +kernel, rfl, by decide +kernel, by decide +kernel⟩
abbrev st__law_same : Stmt := topS 26
theorem sc__law_same : FnScope ["actual", "due", "k"] ["actual", "due"] (defScope st__law_same) := ⟨rfl, rfl, rfl, by decide +kernel, rfl, by decide +kernel, by decide +kernel⟩
abbrev st__law_is_integer : Stmt := topS 27
theorem sc__law_is_integer : FnScope ["value"] ["value"] (defScope st__law_is_integer) := ⟨rfl, rfl, rfl, by decide +kernel, rfl, by decide +kernel, by decide +kernel⟩
abbrev st__law_is_handle : Stmt := topS 28
theorem sc__law_is_handle : FnScope ["value", "item"] ["value"] (defScope st__law_is_handle) := ⟨rfl, rfl, rfl, by decide +kernel, rfl, by decide +kernel, by decide +kernel⟩
abbrev st__law_is_value : Stmt := topS 29
theorem sc__law_is_value : FnScope ["value"] ["value"] (defScope st__law_is_value) := ⟨rfl, rfl, rfl, by decide +kernel, rfl, by decide +kernel, by decide +kernel⟩
abbrev st__law_model : Stmt := topS 30
theorem sc__law_model : FnScope ["cells", "slots", "k"] ["cells", "slots"] (defScope st__law_model) := ⟨rfl, rfl, rfl, by decide +kernel, rfl, by decide +kernel, by decide +kernel⟩
abbrev st__law_state : Stmt := topS 31
theorem sc__law_state : FnScope ["model", "row"] ["model"] (defScope st__law_state) := ⟨rfl, rfl, rfl, by decide +kernel, rfl, by decide +kernel, by decide +kernel⟩
abbrev st__law_live : Stmt := topS 32
theorem sc__law_live : FnScope ["model", "slot"] ["model"] (defScope st__law_live) := ⟨rfl, rfl, rfl, by decide +kernel, rfl, by decide +kernel, by decide +kernel⟩
abbrev st__law_row : Stmt := topS 33
theorem sc__law_row : FnScope ["model", "slot"] ["model", "slot"] (defScope st__law_row) := ⟨rfl, rfl, rfl, by decide +kernel, rfl, by decide +kernel, by decide +kernel⟩
abbrev st__law_named : Stmt := topS 34
theorem sc__law_named : FnScope ["model", "handle", "row"] ["model", "handle"] (defScope st__law_named) := ⟨rfl, rfl, rfl, by decide +kernel, rfl, by decide +kernel, by decide +kernel⟩
abbrev st__law_spot : Stmt := topS 35
theorem sc__law_spot : FnScope ["row", "k"] ["row", "k"] (defScope st__law_spot) := ⟨rfl, rfl, rfl, by decide +kernel, rfl, by decide +kernel, by decide +kernel⟩
abbrev st__law_count_below : Stmt := topS 36
theorem sc__law_count_below : FnScope ["k", "most"] ["k", "most"] (defScope st__law_count_below) := ⟨rfl, rfl, rfl, by decide +kernel, rfl, by decide +kernel, by decide +kernel⟩
abbrev st__law_reserve : Stmt := topS 37
theorem sc__law_reserve : FnScope ["model", "size", "free", "row", "slot"] ["model", "size"] (defScope st__law_reserve) := ⟨rfl, rfl, rfl, by decide +kernel, rfl, by decide +kernel, by decide +kernel⟩
abbrev st__law_fill : Stmt := topS 38
theorem sc__law_fill : FnScope ["model", "handle", "row"] ["model", "handle"] (defScope st__law_fill) := ⟨rfl, rfl, rfl, by decide +kernel, rfl, by decide +kernel, by decide +kernel⟩
abbrev st__law_read : Stmt := topS 39
theorem sc__law_read : FnScope ["model", "handle", "k", "row"] ["model", "handle", "k"] (defScope st__law_read) := ⟨rfl, rfl, rfl, by decide +kernel, rfl, by decide +kernel, by decide +kernel⟩
abbrev st__law_write : Stmt := topS 40
theorem sc__law_write : FnScope ["model", "handle", "k", "value", "row", "old"] ["model", "handle", "k", "value"] (defScope st__law_write) := ⟨rfl, rfl, rfl, by decide +kernel, rfl, by decide +kernel, by decide +kernel⟩
abbrev st__law_place : Stmt := topS 41
theorem sc__law_place : FnScope ["model", "handle", "k", "row"] ["model", "handle", "k"] (defScope st__law_place) := ⟨rfl, rfl, rfl, by decide +kernel, rfl, by decide +kernel, by decide +kernel⟩
abbrev st__law_free : Stmt := topS 42
theorem sc__law_free : FnScope ["model", "slot", "row"] ["model", "slot"] (defScope st__law_free) := ⟨rfl, rfl, rfl, by decide +kernel, rfl, by decide +kernel, by decide +kernel⟩
abbrev st__law_moving : Stmt := topS 43
theorem sc__law_moving : FnScope ["model", "slot"] ["model"] (defScope st__law_moving) := ⟨rfl, rfl, rfl, by decide +kernel, rfl, by decide +kernel, by decide +kernel⟩
abbrev st__law_begin : Stmt := topS 44
theorem sc__law_begin : FnScope ["model", "slot", "to", "row", "taken", "other", "spot"] ["model", "slot", "to"] (defScope st__law_begin) := ⟨rfl, rfl, rfl, by decide +kernel, rfl, by decide +kernel, by decide +kernel⟩
abbrev st__law_copy : Stmt := topS 45
theorem sc__law_copy : FnScope ["model", "slot", "row"] ["model", "slot"] (defScope st__law_copy) := ⟨rfl, rfl, rfl, by decide +kernel, rfl, by decide +kernel, by decide +kernel⟩
abbrev st__law_turn : Stmt := topS 46
theorem sc__law_turn : FnScope ["model", "slot", "row"] ["model", "slot"] (defScope st__law_turn) := ⟨rfl, rfl, rfl, by decide +kernel, rfl, by decide +kernel, by decide +kernel⟩
abbrev st__law_settle : Stmt := topS 47
theorem sc__law_settle : FnScope ["model", "frontier", "slot"] ["model", "frontier"] (defScope st__law_settle) := ⟨rfl, rfl, rfl, by decide +kernel, rfl, by decide +kernel, by decide +kernel⟩
abbrev st__law_told : Stmt := topS 48
theorem sc__law_told : FnScope ["call", "memory", "one", "other", "third"] ["call", "memory", "one", "other", "third"] (defScope st__law_told) := ⟨rfl, rfl, rfl, by decide +kernel, rfl, by decide +kernel, by decide +kernel⟩
abbrev st__law_worded : Stmt := topS 49
theorem sc__law_worded : FnScope ["found"] ["found"] (defScope st__law_worded) := ⟨rfl, rfl, rfl, by decide +kernel, rfl, by decide +kernel, by decide +kernel⟩
abbrev st__law_due : Stmt := topS 50
theorem sc__law_due : FnScope ["call", "model", "one", "other", "third"] ["call", "model", "one", "other", "third"] (defScope st__law_due) := ⟨rfl, rfl, rfl, by decide +kernel, rfl, by decide +kernel, by decide +kernel⟩
abbrev st__law_handle : Stmt := topS 51
theorem sc__law_handle : FnScope ["model", "rich", "slot", "handle", "odd"] ["model", "rich"] (defScope st__law_handle) := ⟨rfl, rfl, rfl, by decide +kernel, rfl, by decide +kernel, by decide +kernel⟩
abbrev st__law_drawn_value : Stmt := topS 52
theorem sc__law_drawn_value : FnScope ["model", "rich", "menu"] ["model", "rich"] (defScope st__law_drawn_value) := ⟨rfl, rfl, rfl, by decide +kernel, rfl, by decide +kernel, by decide +kernel⟩
abbrev st__law_drawn : Stmt := topS 53
theorem sc__law_drawn : FnScope ["model", "rich", "call", "rest", "high", "k", "slot", "row", "low", "other"] ["model", "rich"] (defScope st__law_drawn) := ⟨rfl, rfl, rfl, by decide +kernel, rfl, by decide +kernel, by decide +kernel⟩
abbrev st_law : Stmt := topS 54
theorem sc_law : FnScope ["script", "rich", "model", "k", "rest", "row", "memory", "calls", "call", "place", "one", "other", "third", "state", "later", "again", "told"] ["script"] (defScope st_law) := ⟨rfl, rfl, rfl, by decide +kernel, rfl, by decide +kernel, by decide +kernel⟩
/-- what the top has written of plain names -/
structure Txt (K : PySem.W.Frag) (mg : Str → Option Value) : Prop where
  n_isinstance : mg "isinstance" = none
  n_len : mg "len" = none
  n_all : mg "all" = none
  n_any : mg "any" = none
  n_tuple : mg "tuple" = none
  n_int : mg "int" = none
  n_bool : mg "bool" = none
  n_list : mg "list" = none
  n_range : mg "range" = none
  n_enumerate : mg "enumerate" = none
  n_sorted : mg "sorted" = none
  n_sum : mg "sum" = none
  n_set : mg "set" = none
  n_zip : mg "zip" = none
  n_max : mg "max" = none
  n_min : mg "min" = none
  n_str : mg "str" = none
  n_abs : mg "abs" = none
  c_MOST_CELLS : ∃ u, mg "MOST_CELLS" = some u ∧ RelV (.int 10000) u
  c_MOST_SLOTS : ∃ u, mg "MOST_SLOTS" = some u ∧ RelV (.int 1000) u
end K15
set_option Elab.async false
set_option linter.all false
set_option maxRecDepth 100000
set_option maxHeartbeats 4000000
set_option synthInstance.maxHeartbeats 1000000
set_option synthInstance.maxSize 1000000
namespace K15
open PySem PySem.Spec PyProof.Rows L2 Evl Pd Wl Mm
def isInt : PyData → Bool
  | .int _ => true
  | _ => false
/-- no reference -/
def Nr : PyData → Prop
  | .dict _ => False
  | _ => True
/-- nor within a pair -/
def Nr2 : PyData → Prop
  | .dict _ => False
  | .tuple [a, b] => Nr a ∧ Nr b
  | _ => True
theorem Nr2.int (i : Int) : Nr2 (.int i) := trivial
theorem Nr2.none : Nr2 .none := trivial
theorem Nr2.hdl (i j : Int) : Nr2 (.tuple [.int i, .int j]) := ⟨trivial, trivial⟩
theorem Nr2.top {d : PyData} (h : Nr2 d) : Nr d := by
  cases d <;> first | exact h | trivial
def D_is_integer (ds : List PyData) (h : Lh) (P : Wv) : Prop := ∃ x, ds = [x] ∧ Nr x ∧ P (.bool (isInt x)) h
def D_is_count (ds : List PyData) (h : Lh) (P : Wv) : Prop := ∃ x, ds = [x] ∧ Nr x ∧ P (.bool (isCnt x)) h
def D_is_handle (ds : List PyData) (h : Lh) (P : Wv) : Prop := ∃ x, ds = [x] ∧ Nr2 x ∧ P (.bool (isHdl x)) h
def D_is_value (ds : List PyData) (h : Lh) (P : Wv) : Prop := ∃ x, ds = [x] ∧ Nr2 x ∧ P (.bool (isVal x)) h
section
variable {P : Program} {w : World} {K : PySem.W.Frag} {mg : Str → Option Value} {base : Heap}
theorem cal_is_integer (S : Src K mg "is_integer" st_is_integer ["value"]) (T : Txt K mg) : Cal P w K mg base CX0 1 "is_integer" ["value"] (SpW K D_is_integer) := by
  have sc := sc_is_integer
  refine S.cal (k := 0) sc (SpW.len fun ds h P z => by obtain ⟨_, rfl, _⟩ := z; rfl) (fun f cdv A outer s H vs Q E hr h => ⟨_, (pss_one (ps_ret (pe_and (pe_callB (k_isi (K := K) rfl) (by rfl) T.n_isinstance (by decide +kernel) (pa_cons (pv 0) (pa_cons (pe_bltn (v := .ty "int") (by rfl) T.n_int (by decide +kernel) rfl) pa_nil))) (pe_one (pe_not (pe_callB (k_isi (K := K) rfl) (by rfl) T.n_isinstance (by decide +kernel) (pa_cons (pv 0) (pa_cons (pe_bltn (v := .ty "bool") (by rfl) T.n_bool (by decide +kernel) rfl) pa_nil)))))))), h.enter fun ds lh P hD => ?_⟩)
  obtain ⟨x, rfl, rx, hk⟩ := hD
  cases x with
  | dict k => exact rx.elim
  | _ => simpa [isInt] using hk
theorem cal_is_count (S : Src K mg "is_count" st_is_count ["value"]) (T : Txt K mg) (C_is_integer : Cal P w K mg base CX0 1 "is_integer" ["value"] (SpW K D_is_integer)) : Cal P w K mg base CX0 2 "is_count" ["value"] (SpW K D_is_count) := by
  have sc := sc_is_count
  refine S.cal (k := 1) sc (SpW.len fun ds h P z => by obtain ⟨_, rfl, _⟩ := z; rfl) (fun f cdv A outer s H vs Q E hr h => ⟨_, (pss_one (ps_ret (pe_and (pe_cal C_is_integer (hr.mono (by first | decide | omega)) rfl pass0 (pa_cons (pv 0) pa_nil)) (pe_one (pe_cmpR op_ge (pv 0) pe_int (nomark _)))))), h.enter fun ds lh P hD => ?_⟩)
  obtain ⟨x, rfl, rx, hk⟩ := hD
  cases x with
  | dict k => exact rx.elim
  | _ => simpa [isInt, isCnt, D_is_integer, rx] using hk
theorem cal_is_handle (S : Src K mg "is_handle" st_is_handle ["value"]) (T : Txt K mg) (C_is_count : Cal P w K mg base CX0 2 "is_count" ["value"] (SpW K D_is_count)) : Cal P w K mg base CX0 3 "is_handle" ["value"] (SpW K D_is_handle) := by
  have sc := sc_is_handle
  refine S.cal (k := 2) sc (SpW.len fun ds h P z => by obtain ⟨_, rfl, _⟩ := z; rfl) (fun f cdv A outer s H vs Q E hr h => ⟨_, (pss_one (ps_ret (pe_and (pe_callB (k_isi (K := K) rfl) (by rfl) T.n_isinstance (by decide +kernel) (pa_cons (pv 0) (pa_cons (pe_bltn (v := .ty "tuple") (by rfl) T.n_tuple (by decide +kernel) rfl) pa_nil))) (pe_and (pe_cmpR op_eq (pe_callB (k_len_seq (K := K) rfl) (by rfl) T.n_len PySem.boot_len (pa_cons (pv 0) pa_nil)) pe_int (nomark _)) (pe_and (pe_cal C_is_count (hr.mono (by first | decide | omega)) rfl pass0 (pa_cons (pe_ix (k_ix_tup (K := K) rfl) (pv 0) pe_int (fun _ _ => rfl)) pa_nil)) (pe_one (pe_cal C_is_count (hr.mono (by first | decide | omega)) rfl pass0 (pa_cons (pe_ix (k_ix_tup (K := K) rfl) (pv 0) pe_int (fun _ _ => rfl)) pa_nil)))))))), h.enter fun ds lh P hD => ?_⟩)
  obtain ⟨x, rfl, rx, hk⟩ := hD
  cases x with
  | dict k => exact rx.elim
  | tuple xs =>
    match xs with
    | [] => simpa [isHdl] using hk
    | [a] => simpa [isHdl] using hk
    | [a, b] =>
      obtain ⟨na, nb⟩ := rx
      simp only [isHdl] at hk
      simp
      refine ⟨a, rfl, na, ?_⟩
      cases c : isCnt a with
      | true =>
        rw [c, Bool.true_and] at hk
        simp
        exact ⟨b, rfl, nb, hk⟩
      | false =>
        rw [c, Bool.false_and] at hk
        simpa using hk
    | a :: b :: c :: l =>
      have : ¬ ((l.length : Int) + 1 + 1 + 1 = 2) := by omega
      simpa [isHdl, this] using hk
  | _ => simpa [isHdl] using hk
theorem cal_is_value (S : Src K mg "is_value" st_is_value ["value"]) (T : Txt K mg) (C_is_integer : Cal P w K mg base CX0 1 "is_integer" ["value"] (SpW K D_is_integer)) (C_is_handle : Cal P w K mg base CX0 3 "is_handle" ["value"] (SpW K D_is_handle)) : Cal P w K mg base CX0 4 "is_value" ["value"] (SpW K D_is_value) := by
  have sc := sc_is_value
  refine S.cal (k := 3) sc (SpW.len fun ds h P z => by obtain ⟨_, rfl, _⟩ := z; rfl) (fun f cdv A outer s H vs Q E hr h => ⟨_, (pss_one (ps_ret (pe_or (pe_cmpR op_isN (pv 0) pe_non (nomark _)) (pe_or (pe_cal C_is_integer (hr.mono (by first | decide | omega)) rfl pass0 (pa_cons (pv 0) pa_nil)) (pe_one (pe_cal C_is_handle (hr.mono (by first | decide | omega)) rfl pass0 (pa_cons (pv 0) pa_nil))))))), h.enter fun ds lh P hD => ?_⟩)
  obtain ⟨x, rfl, rx, hk⟩ := hD
  have t := rx.top
  cases x with
  | dict k => exact rx.elim
  | _ => simp only [isVal] at hk; simp [isInt, D_is_integer, D_is_handle, t, rx]; exact hk
end
end K15
set_option Elab.async false
set_option linter.all false
set_option maxRecDepth 100000
set_option maxHeartbeats 4000000
set_option synthInstance.maxHeartbeats 1000000
set_option synthInstance.maxSize 1000000
namespace K15
open PySem PySem.Spec PyProof.Rows L2 Evl Pd Wl Mm
structure MTxt (K : PySem.W.Frag) (C : Addr) : Prop where
  cl : Cls K C
  n0 : NoAttr K C "_arena"
  n1 : NoAttr K C "_table"
  n2 : NoAttr K C "_end"
structure ETxt (K : PySem.W.Frag) (E : Addr) : Prop where
  cl : Cls K E
  n0 : NoAttr K E "stamp"
  n1 : NoAttr K E "live"
  n2 : NoAttr K E "size"
  n3 : NoAttr K E "start"
  n4 : NoAttr K E "filled"
  n5 : NoAttr K E "to"
  n6 : NoAttr K E "done"
  n7 : NoAttr K E "mark"
  n8 : NoAttr K E "black"
section
variable {P : Program} {w : World} {K : PySem.W.Frag} {mg : Str → Option Value} {base : Heap} {C E : Addr}
/-- an entry alone -/
def D_row (E : Addr) (ds : List PyData) (h : Lh) (P : Wv) : Prop := ∃ x r, ds = [rf x] ∧ h x = some (.ins E (Row.f r)) ∧ P (.tuple r.ds) h
def D_high (E : Addr) (ds : List PyData) (h : Lh) (P : Wv) : Prop := ∃ x r, ds = [rf x] ∧ h x = some (.ins E (Row.f r)) ∧ P (.int (r.start + r.size)) h
def D_Einit (E : Addr) (ds : List PyData) (h : Lh) (P : Wv) : Prop := ∃ x, ds = [rf x] ∧ h x = some (.ins E []) ∧ P .none (up h x (.ins E (Row.f default)))
theorem cal_row (S : SrcM K E "row" "Entry.row" st_Entry_row ["self"]) (T : Txt K mg) (ET : ETxt K E) : CalM P w K mg base CX0 1 E "row" ["self"] (SpW K (D_row E)) := by
  have sc := sc_Entry_row
  refine S.cal (k := 0) sc (SpW.len fun ds h P z => by obtain ⟨_, _, rfl, _⟩ := z; rfl) (fun f cdv A outer s H vs Q E' hr h => ⟨_, (pss_one (ps_ret (pe_tup (pa_cons (k_fld (K := K) rfl (pv 0) rfl) (pa_cons (k_fld (K := K) rfl (pv 0) rfl) (pa_cons (k_fld (K := K) rfl (pv 0) rfl) (pa_cons (k_fld (K := K) rfl (pv 0) rfl) (pa_cons (k_fld (K := K) rfl (pv 0) rfl) (pa_cons (k_fld (K := K) rfl (pv 0) rfl) (pa_cons (k_fld (K := K) rfl (pv 0) rfl) (pa_cons (k_fld (K := K) rfl (pv 0) rfl) (pa_cons (k_fld (K := K) rfl (pv 0) rfl) pa_nil)))))))))))), h.enter fun ds lh P hD => ?_⟩)
  obtain ⟨x, r, rfl, hx, hk⟩ := hD
  simp [hx, ET.cl, ET.n0, ET.n1, ET.n2, ET.n3, ET.n4, ET.n5, ET.n6, ET.n7, ET.n8]
  exact hk
theorem cal_high (S : SrcM K E "high" "Entry.high" st_Entry_high ["self"]) (T : Txt K mg) (ET : ETxt K E) : CalM P w K mg base CX0 1 E "high" ["self"] (SpW K (D_high E)) := by
  have sc := sc_Entry_high
  refine S.cal (k := 0) sc (SpW.len fun ds h P z => by obtain ⟨_, _, rfl, _⟩ := z; rfl) (fun f cdv A outer s H vs Q E' hr h => ⟨_, (pss_one (ps_ret (pe_op op_add (k_fld (K := K) rfl (pv 0) rfl) (k_fld (K := K) rfl (pv 0) rfl)))), h.enter fun ds lh P hD => ?_⟩)
  obtain ⟨x, r, rfl, hx, hk⟩ := hD
  simp [hx, ET.cl, ET.n2, ET.n3]
  exact hk
end
end K15
set_option Elab.async false
set_option linter.all false
set_option maxRecDepth 100000
set_option maxHeartbeats 4000000
set_option synthInstance.maxHeartbeats 1000000
set_option synthInstance.maxSize 1000000
namespace K15
open PySem PySem.Spec PyProof.Rows L2 Evl Pd Wl Mm
theorem ixN_nat {n i : Nat} (hi : i < n) : ixN n (i : Int) = some i := by
  simp [ixN]; omega
theorem atI_es {p : Mp} {i : Nat} (hi : i < p.es.length) : atI (p.es.map fun x => rf x) (i : Int) = some (rf p.es[i]) := atI_nat (by rw [List.getElem?_map, List.getElem?_eq_getElem hi]; rfl)
section
variable {P : Program} {w : World} {K : PySem.W.Frag} {mg : Str → Option Value} {base : Heap} {C E CH : Addr}
def D_cells (C E : Addr) (ds : List PyData) (h : Lh) (P : Wv) : Prop := ∃ m p, ds = [rf p.a] ∧ MemK C E m p h ∧ P (.int (m.ar.length : Nat)) h
def D_slots (C E : Addr) (ds : List PyData) (h : Lh) (P : Wv) : Prop := ∃ m p, ds = [rf p.a] ∧ MemK C E m p h ∧ P (.int (m.rows.length : Nat)) h
def D_end (C E : Addr) (ds : List PyData) (h : Lh) (P : Wv) : Prop := ∃ m p, ds = [rf p.a] ∧ MemK C E m p h ∧ P (.int m.e) h
theorem cal_cells (S : SrcM K C "cells" "Memory.cells" st_Memory_cells ["self"]) (T : Txt K mg) (MT : MTxt K C) : CalM P w K mg base CX0 1 C "cells" ["self"] (SpW K (D_cells C E)) := by
  have sc := sc_Memory_cells
  refine S.cal (k := 0) sc (SpW.len fun ds h P z => by obtain ⟨_, _, rfl, _⟩ := z; rfl) (fun f cdv A outer s H vs Q E' hr h => ⟨_, (pss_one (ps_ret (pe_callB (k_len_seq (K := K) rfl) (by rfl) T.n_len PySem.boot_len (pa_cons (k_fld (K := K) rfl (pv 0) rfl) pa_nil)))), h.enter fun ds lh P hD => ?_⟩)
  obtain ⟨m, p, rfl, A0, hk⟩ := hD
  simp [A0.a, A0.arr, MT.cl, MT.n0, qv]
  exact hk
theorem cal_slots (S : SrcM K C "slots" "Memory.slots" st_Memory_slots ["self"]) (T : Txt K mg) (MT : MTxt K C) : CalM P w K mg base CX0 1 C "slots" ["self"] (SpW K (D_slots C E)) := by
  have sc := sc_Memory_slots
  refine S.cal (k := 0) sc (SpW.len fun ds h P z => by obtain ⟨_, _, rfl, _⟩ := z; rfl) (fun f cdv A outer s H vs Q E' hr h => ⟨_, (pss_one (ps_ret (pe_callB (k_len_seq (K := K) rfl) (by rfl) T.n_len PySem.boot_len (pa_cons (k_fld (K := K) rfl (pv 0) rfl) pa_nil)))), h.enter fun ds lh P hD => ?_⟩)
  obtain ⟨m, p, rfl, A0, hk⟩ := hD
  rw [← A0.len] at hk
  simp [A0.a, A0.tbl, MT.cl, MT.n1, qv]
  exact hk
theorem cal_end (S : SrcM K C "end" "Memory.end" st_Memory_end ["self"]) (T : Txt K mg) (MT : MTxt K C) : CalM P w K mg base CX0 1 C "end" ["self"] (SpW K (D_end C E)) := by
  have sc := sc_Memory_end
  refine S.cal (k := 0) sc (SpW.len fun ds h P z => by obtain ⟨_, _, rfl, _⟩ := z; rfl) (fun f cdv A outer s H vs Q E' hr h => ⟨_, (pss_one (ps_ret (k_fld (K := K) rfl (pv 0) rfl))), h.enter fun ds lh P hD => ?_⟩)
  obtain ⟨m, p, rfl, A0, hk⟩ := hD
  simp [A0.a, MT.cl, MT.n2]
  exact hk
def D_is_live (C E : Addr) (ds : List PyData) (h : Lh) (P : Wv) : Prop := ∃ m p d, ds = [rf p.a, d] ∧ MemK C E m p h ∧ Nr2 d ∧ P (.bool (atHdl m d).isSome) h
theorem cal_is_live (S : SrcM K C "is_live" "Memory.is_live" st_Memory_is_live ["self", "handle"]) (T : Txt K mg) (MT : MTxt K C) (ET : ETxt K E) (C_is_handle : Cal P w K mg base CX0 3 "is_handle" ["value"] (SpW K D_is_handle)) : CalM P w K mg base CX0 4 C "is_live" ["self", "handle"] (SpW K (D_is_live C E)) := by
  have sc := sc_Memory_is_live
  refine S.cal (k := 3) sc (SpW.len fun ds h P z => by obtain ⟨_, _, _, rfl, _⟩ := z; rfl) (fun f cdv A outer s H vs Q E' hr h => ⟨_, (pss_cons (ps_if (PW.pt (pw_or (pt_not (pt_val (pe_cal C_is_handle (hr.mono (by first | decide | omega)) rfl pass0 (pa_cons (pv 1) pa_nil)))) (pw_or1 (pt_cmpR op_ge (pe_ix (k_ix_tup (K := K) rfl) (pv 1) pe_int (fun _ _ => rfl)) (pe_callB (k_len_seq (K := K) rfl) (by rfl) T.n_len PySem.boot_len (pa_cons (k_fld (K := K) rfl (pv 0) rfl) pa_nil)) (nomark _))))) (pss_one (ps_ret pe_bl)) pss_nil)
  (pss_one (ps_ret (pe_and (k_fld (K := K) rfl (pe_ix (k_ix_list (K := K) rfl) (k_fld (K := K) rfl (pv 0) rfl) (pe_ix (k_ix_tup (K := K) rfl) (pv 1) pe_int (fun _ _ => rfl)) (fun _ _ => rfl)) rfl) (pe_one (pe_cmpR op_eq (k_fld (K := K) rfl (pe_ix (k_ix_list (K := K) rfl) (k_fld (K := K) rfl (pv 0) rfl) (pe_ix (k_ix_tup (K := K) rfl) (pv 1) pe_int (fun _ _ => rfl)) (fun _ _ => rfl)) rfl) (pe_ix (k_ix_tup (K := K) rfl) (pv 1) pe_int (fun _ _ => rfl)) (nomark _))))))), h.enter fun ds lh P hD => ?_⟩)
  obtain ⟨m, p, d, rfl, A0, nr, hk⟩ := hD
  have hl := A0.len
  simp [D_is_handle, nr]
  cases c : isHdl d with
  | false =>
    have : atHdl m d = none := by
      unfold atHdl
      split
      · next a b =>
        simp [isHdl, isCnt] at c
        rw [if_neg (by intro z; exact absurd (c z.1) (by omega))]
      · rfl
    rw [this] at hk
    simpa using hk
  | true =>
    obtain ⟨a, b, rfl, ha, hb⟩ : ∃ a b : Int, d = .tuple [.int a, .int b] ∧ 0 ≤ a ∧ 0 ≤ b := by
      unfold isHdl at c
      split at c
      · next x y =>
        rw [Bool.and_eq_true] at c
        obtain ⟨c1, c2⟩ := c
        cases x <;> simp [isCnt] at c1
        cases y <;> simp [isCnt] at c2
        exact ⟨_, _, rfl, c1, c2⟩
      · cases c
    obtain ⟨i, rfl⟩ : ∃ i : Nat, a = (i : Int) := ⟨a.toNat, by omega⟩
    simp [A0.a, A0.tbl, MT.cl, MT.n1, qv, Wl.tv, hl]
    refine wCond.p (fun c1 => ?_) fun c1 => ?_
    · have : atHdl m (.tuple [.int i, .int b]) = none := by
        simp only [atHdl]
        rw [if_neg (by intro z; have := z.2.2.1; omega)]
      rw [this] at hk
      simpa using hk
    · have hi : i < p.es.length := by omega
      simp [atI_es hi, A0.en i hi, ET.cl, ET.n0, ET.n1]
      have : (atHdl m (.tuple [.int i, .int b])).isSome = ((m.row i).live && decide ((m.row i).stamp = b)) := by
        simp only [atHdl, Int.toNat_natCast]
        have h1 : (i : Int) < (m.rows.length : Nat) := by omega
        by_cases l : (m.row i).live = true
        · by_cases z : (m.row i).stamp = b
          · rw [if_pos ⟨by omega, hb, h1, l, z⟩]; simp [l, z]
          · rw [if_neg (fun y => z y.2.2.2.2)]; simp [l, z]
        · rw [if_neg (fun y => l y.2.2.2.1)]; simp [l]
      rw [this] at hk
      exact hk
/-- the classes of what is raised -/
structure XA where
  room : Addr
  handle : Addr
  cell : Addr
  value : Addr
  move : Addr
def XA.at_ (x : XA) : Bad → Addr
  | .room => x.room
  | .handle => x.handle
  | .cell => x.cell
  | .value => x.value
  | .move => x.move
theorem atSlot_lt {m : Mem} {d : PyData} {i : Nat} (h : atSlot m d = some i) : d = .int i ∧ i < m.rows.length ∧ (m.row i).live = true := by
  unfold atSlot at h
  split at h
  · next j =>
    split at h
    · next c =>
      cases h
      exact ⟨by congr 1; omega, by omega, c.2.2⟩
    · cases h
  · cases h
theorem atHdl_lt {m : Mem} {d : PyData} {i : Nat} (h : atHdl m d = some i) : d = .tuple [.int i, .int (m.row i).stamp] ∧ i < m.rows.length ∧ (m.row i).live = true ∧ 0 ≤ (m.row i).stamp := by
  unfold atHdl at h
  split at h
  · next a b =>
    split at h
    · next c =>
      cases h
      obtain ⟨c1, c2, c3, c4, c5⟩ := c
      refine ⟨?_, by omega, c4, by omega⟩
      rw [c5]
      have : ((a.toNat : Nat) : Int) = a := by omega
      rw [this]
    · cases h
  · cases h
def D_entry (C E CH : Addr) (ds : List PyData) (h : Lh) (P : Wv) (X : Addr → List (Str × PyData) → Lh → Prop) : Prop := ∃ m p d, ds = [rf p.a, d] ∧ MemK C E m p h ∧ Nr2 d ∧
  match atHdl m d with
  | some i => ∀ hi : i < p.es.length, P (rf p.es[i]) h
  | none => X CH [] h
theorem cal_entry (S : SrcM K C "_entry" "Memory._entry" st_Memory_entry ["self", "handle"]) (T : Txt K mg) (MT : MTxt K C) (ET : ETxt K E) (XX_BadHandle : XCls K mg "BadHandle" CH) (M_is_live : CalM P w K mg base CX0 4 C "is_live" ["self", "handle"] (SpW K (D_is_live C E))) : CalM P w K mg base (L2.CX P w) 5 C "_entry" ["self", "handle"] (SpX K (D_entry C E CH)) := by
  have sc := sc_Memory_entry
  refine S.calX (k := 4) sc (SpX.len fun ds h P X z => by obtain ⟨_, _, _, rfl, _⟩ := z; rfl) (fun f cdv A outer s H vs Q E' hr h => ⟨_, (pss_cons (ps_if (pt_not (pt_val (pe_calM M_is_live MT.cl (hr.mono (by first | decide | omega)) pass0 (pv 0) (pa_cons (pv 1) pa_nil)))) (pss_one (k_raise rfl (takes_of rfl rfl rfl rfl) (k_mkx XX_BadHandle rfl))) pss_nil)
  (pss_one (ps_ret (pe_ix (k_ix_list (K := K) rfl) (k_fld (K := K) rfl (pv 0) rfl) (pe_ix (k_ix_tup (K := K) rfl) (pv 1) pe_int (fun _ _ => rfl)) (fun _ _ => rfl))))), h.enter fun ds lh P X hD => ?_⟩)
  obtain ⟨m, p, d, rfl, A0, nr, hk⟩ := hD
  simp [A0.a, MT.cl, MT.n1]
  refine ⟨m, p, d, rfl, A0, nr, ?_⟩
  have hl := A0.len
  cases c : atHdl m d with
  | none =>
    rw [c] at hk
    simp
    exact hk
  | some i =>
    rw [c] at hk
    obtain ⟨rfl, hi, _⟩ := atHdl_lt c
    have hi' : i < p.es.length := by omega
    simp [A0.a, MT.cl, MT.n1, A0.tbl, qv, lv, Wl.tv, atI_es hi']
    exact hk hi'
def D_entry_at (C E CH : Addr) (ds : List PyData) (h : Lh) (P : Wv) (X : Addr → List (Str × PyData) → Lh → Prop) : Prop := ∃ m p d, ds = [rf p.a, d] ∧ MemK C E m p h ∧ Nr d ∧
  match atSlot m d with
  | some i => ∀ hi : i < p.es.length, P (rf p.es[i]) h
  | none => X CH [] h
theorem cal_entry_at (S : SrcM K C "_entry_at" "Memory._entry_at" st_Memory_entry_at ["self", "slot"]) (T : Txt K mg) (MT : MTxt K C) (ET : ETxt K E) (XX_BadHandle : XCls K mg "BadHandle" CH) (C_is_count : Cal P w K mg base CX0 2 "is_count" ["value"] (SpW K D_is_count)) : CalM P w K mg base (L2.CX P w) 3 C "_entry_at" ["self", "slot"] (SpX K (D_entry_at C E CH)) := by
  have sc := sc_Memory_entry_at
  refine S.calX (k := 2) sc (SpX.len fun ds h P X z => by obtain ⟨_, _, _, rfl, _⟩ := z; rfl) (fun f cdv A outer s H vs Q E' hr h => ⟨_, (pss_cons (ps_if (PW.pt (pw_or (pt_not (pt_val (pe_cal C_is_count (hr.mono (by first | decide | omega)) rfl pass0 (pa_cons (pv 1) pa_nil)))) (pw_or (pt_cmpR op_ge (pv 1) (pe_callB (k_len_seq (K := K) rfl) (by rfl) T.n_len PySem.boot_len (pa_cons (k_fld (K := K) rfl (pv 0) rfl) pa_nil)) (nomark _)) (pw_or1 (pt_not (pt_val (k_fld (K := K) rfl (pe_ix (k_ix_list (K := K) rfl) (k_fld (K := K) rfl (pv 0) rfl) (pv 1) (fun _ _ => rfl)) rfl))))))) (pss_one (k_raise rfl (takes_of rfl rfl rfl rfl) (k_mkx XX_BadHandle rfl))) pss_nil)
  (pss_one (ps_ret (pe_ix (k_ix_list (K := K) rfl) (k_fld (K := K) rfl (pv 0) rfl) (pv 1) (fun _ _ => rfl))))), h.enter fun ds lh P X hD => ?_⟩)
  obtain ⟨m, p, d, rfl, A0, nr, hk⟩ := hD
  simp [A0.a, A0.tbl, MT.cl, MT.n1, D_is_count, nr, qv, A0.len]
  have hl := A0.len
  cases c : isCnt d with
  | false =>
    have : atSlot m d = none := by
      unfold atSlot
      split
      · next i =>
        simp [isCnt] at c
        rw [if_neg (by intro z; omega)]
      · rfl
    rw [this] at hk
    simp
    exact hk
  | true =>
    obtain ⟨i, rfl⟩ : ∃ i : Nat, d = .int i := by
      cases d <;> simp [isCnt] at c
      next j => exact ⟨j.toNat, by congr 1; omega⟩
    simp
    by_cases c1 : m.rows.length ≤ i
    · have : atSlot m (.int i) = none := by
        simp only [atSlot]
        rw [if_neg (by intro z; omega)]
      rw [this] at hk
      simp [c1]
      exact hk
    · have hi : i < p.es.length := by omega
      simp [c1, atI_es hi, A0.en i hi, ET.cl, ET.n1]
      by_cases l : (m.row i).live = true
      · have : atSlot m (.int i) = some i := by
          simp only [atSlot, Int.toNat_natCast]
          rw [if_pos ⟨by omega, by omega, l⟩]
        rw [this] at hk
        simp [l]
        exact hk hi
      · have : atSlot m (.int i) = none := by
          simp only [atSlot, Int.toNat_natCast]
          rw [if_neg (fun z => l z.2.2)]
        rw [this] at hk
        simp [l]
        exact hk
end
end K15
set_option Elab.async false
set_option linter.all false
set_option maxRecDepth 100000
set_option maxHeartbeats 4000000
set_option synthInstance.maxHeartbeats 1000000
set_option synthInstance.maxSize 1000000
namespace K15
open PySem PySem.Spec PyProof.Rows L2 Evl Pd Wl Mm
theorem wCond_b {b : Bool} {A B : Prop} (h1 : b = true → A) (h2 : b = false → B) : wCond b A B := by
  cases b with
  | true => exact wCond.t (h1 rfl)
  | false => exact wCond.f (h2 rfl)
theorem es_range (p : Mp) : (p.es.map fun x => rf x) = (List.range p.es.length).map fun i => rf (p.es.getD i 0) := by
  have := congrArg (List.map fun x => rf x) (range_getD p.es)
  rw [List.map_map] at this
  exact this.symm
theorem rows_range (m : Mem) : m.rows = (List.range m.rows.length).map m.row := by
  refine List.ext_getElem (by simp) fun i h1 h2 => ?_
  simp [Mem.row, List.getD, h1]
theorem liveN_range (m : Mem) : ((List.range m.rows.length).filter fun i => (m.row i).live).length = liveN m := by
  unfold liveN
  conv => rhs; rw [rows_range m]
  rw [List.filter_map, List.length_map]
  rfl
theorem getD_es {p : Mp} {i : Nat} (hi : i < p.es.length) : p.es.getD i 0 = p.es[i] := by simp [List.getD, hi]
section
variable {P : Program} {w : World} {K : PySem.W.Frag} {mg : Str → Option Value} {base : Heap} {C E CH : Addr}
def D_live (C E : Addr) (ds : List PyData) (h : Lh) (P : Wv) : Prop := ∃ m p, ds = [rf p.a] ∧ MemK C E m p h ∧ m.rows.length ≤ 1000 ∧ P (.int (liveN m : Nat)) h
theorem cal_live (S : SrcM K C "live" "Memory.live" st_Memory_live ["self"]) (T : Txt K mg) (MT : MTxt K C) (ET : ETxt K E) : CalM P w K mg base CX0 1 C "live" ["self"] (SpW K (D_live C E)) := by
  have sc := sc_Memory_live
  refine S.cal (k := 0) sc (SpW.len fun ds h P z => by obtain ⟨_, _, rfl, _⟩ := z; rfl) (fun f cdv A outer s H vs Q E' hr h => ⟨_, (pss_one (ps_ret (pe_callB (k_len_seq (K := K) rfl) (by rfl) T.n_len PySem.boot_len (pa_cons (pe_lc (own := [("entry", 1)]) rfl sc.nd (k_pi_list (K := K) rfl (k_fld (K := K) rfl (pv 0) rfl)) (blkOk_by (by first | decide +kernel | kernel_rfl)) (fun _ _ _ _ _ => (pg_name (i := 1) sc.nd rfl (by first | exact Or.inl rfl | exact Or.inr rfl))) (fun _ _ _ _ _ => (pts_one (pt_val (k_fld (K := K) rfl (pv 1) rfl)))) (fun _ _ _ _ _ => (pv 1))) pa_nil)))), h.enter fun ds lh P hD => ?_⟩)
  obtain ⟨m, p, rfl, A0, h1000, hk⟩ := hD
  have hl := A0.len
  simp [A0.a, A0.tbl, MT.cl, MT.n1, qv, lv]
  rw [es_range]
  refine lcL_filter (l := List.range p.es.length) (emb := fun i => rf (p.es.getD i 0)) (fun i => (m.row i).live) (fun i => rf (p.es.getD i 0)) (by simp [A0.tbl, es_range]) (by simp; omega) (fun i hi F F0 h1 h2 => ?_) ?_
  · have hi' : i < p.es.length := List.mem_range.mp hi
    rw [getD_es hi'] at h1 ⊢
    simp [A0.en i hi', ET.cl, ET.n1]
    exact wCond_b h1 h2
  · rw [List.length_map, hl, liveN_range]; exact hk
def D_spot (E : Addr) (ds : List PyData) (h : Lh) (P : Wv) : Prop := ∃ s x r k, ds = [s, rf x, .int k] ∧ h x = some (.ins E (Row.f r)) ∧ P (.int (spot r k)) h
theorem cal_spot (S : SrcM K C "_spot" "Memory._spot" st_Memory_spot ["self", "entry", "k"]) (T : Txt K mg) (ET : ETxt K E) : CalM P w K mg base CX0 1 C "_spot" ["self", "entry", "k"] (SpW K (D_spot E)) := by
  have sc := sc_Memory_spot
  refine S.cal (k := 0) sc (SpW.len fun ds h P z => by obtain ⟨_, _, _, _, rfl, _⟩ := z; rfl) (fun f cdv A outer s H vs Q E' hr h => ⟨_, (pss_one (ps_ret (pe_ifExp (PW.pt (pw_and (pt_cmpR op_notN (k_fld (K := K) rfl (pv 1) rfl) pe_non (nomark _)) (pw_and1 (pt_cmpR op_lt (pv 2) (k_fld (K := K) rfl (pv 1) rfl) (nomark _))))) (pe_op op_add (k_fld (K := K) rfl (pv 1) rfl) (pv 2)) (pe_op op_add (k_fld (K := K) rfl (pv 1) rfl) (pv 2))))), h.enter fun ds lh P hD => ?_⟩)
  obtain ⟨s, x, r, k, rfl, hx, hk⟩ := hD
  unfold spot at hk
  cases e : r.to with
  | none =>
    rw [e] at hk
    simp [hx, ET.cl, ET.n3, ET.n5, ET.n6, e, oI]
    exact hk
  | some t =>
    rw [e] at hk
    simp [hx, ET.cl, ET.n3, ET.n5, ET.n6, e, oI]
    by_cases c : k < r.done
    · simp [c] at hk ⊢; exact hk
    · simp [c] at hk ⊢; exact hk
def D_moving (C E : Addr) (ds : List PyData) (h : Lh) (P : Wv) : Prop := ∃ m p, ds = [rf p.a] ∧ MemK C E m p h ∧ m.rows.length ≤ 1000 ∧ P (match mover m with | some i => .int (i : Nat) | none => .none) h
theorem cal_moving (S : SrcM K C "moving" "Memory.moving" st_Memory_moving ["self"]) (T : Txt K mg) (MT : MTxt K C) (ET : ETxt K E) : CalM P w K mg base CX0 1 C "moving" ["self"] (SpW K (D_moving C E)) := by
  have sc := sc_Memory_moving
  refine S.cal (k := 0) sc (SpW.len fun ds h P z => by obtain ⟨_, _, rfl, _⟩ := z; rfl) (fun f cdv A outer s H vs Q E' hr h => ⟨_, (pss_cons (ps_for PassesOwn.never rfl (k_pi_enum (K := K) rfl (by rfl) T.n_enumerate (pa_cons (k_fld (K := K) rfl (pv 0) rfl) pa_nil)) (k_pg_tup (K := K) (n := 2) rfl rfl (pgs_cons (pg_name (i := 1) sc.nd rfl (by first | exact Or.inl rfl | exact Or.inr rfl)) (pgs_cons (pg_name (i := 2) sc.nd rfl (by first | exact Or.inl rfl | exact Or.inr rfl)) pgs_nil))) (pss_one (ps_if (PW.pt (pw_and (pt_val (k_fld (K := K) rfl (pv 2) rfl)) (pw_and1 (pt_cmpR op_notN (k_fld (K := K) rfl (pv 2) rfl) pe_non (nomark _))))) (pss_one (ps_ret (pv 1))) pss_nil)))
  (pss_one (ps_ret pe_non))), h.enter fun ds lh P hD => ?_⟩)
  obtain ⟨m, p, rfl, A0, h1000, hk⟩ := hD
  have hl := A0.len
  simp [A0.a, A0.tbl, MT.cl, MT.n1, qv, lv]
  refine forL_run (fun ds ρ h => ∃ (i : Nat) (o1 o2 : Option PyData), i ≤ p.es.length ∧ h = lh ∧ ds = Pd.numbered i ((p.es.map fun x => rf x).drop i) ∧ ρ = [some (rf p.a), o1, o2] ∧ ∀ j, j < i → ((m.row j).live && (m.row j).to.isSome) = false) ?_ ?_ ⟨0, none, none, Nat.zero_le _, rfl, rfl, rfl, fun j hj => absurd hj (by omega)⟩
  · rintro d ds ρ h ⟨i, o1, o2, hi, rfl, e, rfl, no⟩
    rcases Nat.lt_or_ge i p.es.length with hlt | hge
    · rw [List.drop_eq_getElem_cons (by simpa using hlt)] at e
      simp [Pd.numbered] at e
      obtain ⟨rfl, rfl⟩ := e
      refine ⟨by simp [A0.tbl], fun F hF => ?_⟩
      have go : ((m.row i).live && (m.row i).to.isSome) = false → F [some (rf p.a), some (.int (i : Nat)), some (rf p.es[i])] h := fun z => hF _ _ ⟨i + 1, _, _, hlt, rfl, by simp, rfl, fun j hj => by
        rcases Nat.lt_or_ge j i with c | c
        · exact no j c
        · have : j = i := by omega
          subst this; exact z⟩
      have stop : ((m.row i).live && (m.row i).to.isSome) = true → P (.int (i : Nat)) h := fun z => by
        have : mover m = some i := by
          unfold mover
          rw [List.findIdx?_eq_some_iff_getElem]
          have h1 : i < m.rows.length := by omega
          have h2 : ∀ j (hj : j < m.rows.length), m.rows[j] = m.row j := fun j hj => by simp [Mem.row, List.getD, hj]
          exact ⟨h1, by rw [h2]; exact z, fun j hj => by rw [h2]; simpa using no j hj⟩
        rw [this] at hk; exact hk
      cases e1 : (m.row i).to with
      | none =>
        rw [e1] at go
        simp [A0.en i hlt, ET.cl, ET.n1, ET.n5, e1, oI]
        exact go (by simp)
      | some t =>
        rw [e1] at go stop
        simp [A0.en i hlt, ET.cl, ET.n1, ET.n5, e1, oI]
        exact wCond_b (fun c => stop (by simp [c])) fun c => go (by simp [c])
    · rw [List.drop_of_length_le (by simpa using hge)] at e; cases e
  · rintro ρ h ⟨i, o1, o2, hi, rfl, e, rfl, no⟩
    have hi2 : i = p.es.length := by
      rcases Nat.lt_or_ge i p.es.length with hlt | hge
      · rw [List.drop_eq_getElem_cons (by simpa using hlt)] at e; simp [Pd.numbered] at e
      · omega
    have : mover m = none := by
      unfold mover
      rw [List.findIdx?_eq_none_iff]
      intro r hr
      obtain ⟨j, hj, rfl⟩ := List.getElem_of_mem hr
      have := no j (by omega)
      simpa [Mem.row, List.getD, hj] using this
    rw [this] at hk
    refine ⟨by simp [A0.tbl], ?_⟩
    simpa using hk
end
end K15
set_option Elab.async false
set_option linter.all false
set_option maxRecDepth 100000
set_option maxHeartbeats 4000000
set_option synthInstance.maxHeartbeats 1000000
set_option synthInstance.maxSize 1000000
namespace K15
open PySem PySem.Spec PyProof.Rows L2 Evl Pd Wl Mm
/-- what a call tells, and what it leaves -/
def Go (C E : Addr) (x : XA) (p : Mp) (h : Lh) (o : Out) (P : Wv) (X : Addr → List (Str × PyData) → Lh → Prop) : Prop := ∀ h', MemK C E o.2 p h' → Kp p.F h h' → match o.1 with
  | .ok v => P v h'
  | .error b => X (x.at_ b) [] h'
theorem below_not {b : Int} {k : PyData} (h : isCnt k = false) : below b k = false := by
  cases k with
  | int j => simp [isCnt] at h; simp [below]; omega
  | _ => rfl
theorem isCnt_int {k : PyData} (h : isCnt k = true) : ∃ j : Int, k = .int j ∧ 0 ≤ j := by
  cases k with
  | int j => exact ⟨j, rfl, by simpa [isCnt] using h⟩
  | _ => simp [isCnt] at h
theorem ixN_int {n : Nat} {k : Int} (h0 : 0 ≤ k) (hk : k < (n : Nat)) : ixN n k = some k.toNat := by
  obtain ⟨i, rfl⟩ : ∃ i : Nat, k = (i : Int) := ⟨k.toNat, by omega⟩
  rw [Int.toNat_natCast]
  exact ixN_nat (by omega)
theorem atI_peek {m : Mem} {k : Int} (h0 : 0 ≤ k) (hk : k < (m.ar.length : Nat)) : atI m.ar k = some (m.peek k) := by
  obtain ⟨i, rfl⟩ : ∃ i : Nat, k = (i : Int) := ⟨k.toNat, by omega⟩
  have : i < m.ar.length := by omega
  exact atI_nat (by simp [Mem.peek, List.getD, this])
section
variable {P : Program} {w : World} {K : PySem.W.Frag} {mg : Str → Option Value} {base : Heap} {C E : Addr} {x : XA}
def D_fits (C E : Addr) (ds : List PyData) (h : Lh) (P : Wv) : Prop := ∃ m p s, ds = [rf p.a, .int s] ∧ MemK C E m p h ∧ Snd m ∧ P (.bool (fits m s)) h
theorem cal_fits (S : SrcM K C "fits" "Memory.fits" st_Memory_fits ["self", "size"]) (T : Txt K mg) (MT : MTxt K C) (M_live : CalM P w K mg base CX0 1 C "live" ["self"] (SpW K (D_live C E))) : CalM P w K mg base CX0 2 C "fits" ["self", "size"] (SpW K (D_fits C E)) := by
  have sc := sc_Memory_fits
  refine S.cal (k := 1) sc (SpW.len fun ds h P z => by obtain ⟨_, _, _, rfl, _⟩ := z; rfl) (fun f cdv A outer s H vs Q E' hr h => ⟨_, (pss_one (ps_ret (pe_and (pe_cmpR op_le (pe_op op_add (k_fld (K := K) rfl (pv 0) rfl) (pv 1)) (pe_callB (k_len_seq (K := K) rfl) (by rfl) T.n_len PySem.boot_len (pa_cons (k_fld (K := K) rfl (pv 0) rfl) pa_nil)) (nomark _)) (pe_one (pe_cmpR op_lt (pe_calM0 M_live MT.cl (hr.mono (by first | decide | omega)) pass0 (pv 0)) (pe_callB (k_len_seq (K := K) rfl) (by rfl) T.n_len PySem.boot_len (pa_cons (k_fld (K := K) rfl (pv 0) rfl) pa_nil)) (nomark _)))))), h.enter fun ds lh P hD => ?_⟩)
  obtain ⟨m, p, s, rfl, A0, Sn, hk⟩ := hD
  unfold fits at hk
  have hl := A0.len
  simp [A0.a, A0.qa, MT.cl, MT.n0, MT.n2]
  refine wCond.p (fun c => ?_) fun c => ?_
  · refine ⟨m, p, rfl, A0, Sn.rc, ?_⟩
    simp [c] at hk
    simp [A0.a, A0.qt, MT.cl, MT.n1, hl]
    exact hk
  · simp [c] at hk
    exact hk
def D_read (C E : Addr) (x : XA) (ds : List PyData) (h : Lh) (P : Wv) (X : Addr → List (Str × PyData) → Lh → Prop) : Prop := ∃ m p d k, ds = [rf p.a, d, k] ∧ MemK C E m p h ∧ Snd m ∧ Nr2 d ∧ Nr k ∧ Go C E x p h (readO m d k) P X
theorem cal_read (S : SrcM K C "read" "Memory.read" st_Memory_read ["self", "handle", "k"]) (T : Txt K mg) (MT : MTxt K C) (ET : ETxt K E) (XX_BadCell : XCls K mg "BadCell" x.cell) (C_is_count : Cal P w K mg base CX0 2 "is_count" ["value"] (SpW K D_is_count)) (M__spot : CalM P w K mg base CX0 1 C "_spot" ["self", "entry", "k"] (SpW K (D_spot E)))
    (M__entry : CalM P w K mg base (L2.CX P w) 5 C "_entry" ["self", "handle"] (SpX K (D_entry C E x.handle))) : CalM P w K mg base (L2.CX P w) 6 C "read" ["self", "handle", "k"] (SpX K (D_read C E x)) := by
  have sc := sc_Memory_read
  refine S.calX (k := 5) sc (SpX.len fun ds h P X z => by obtain ⟨_, _, _, _, rfl, _⟩ := z; rfl) (fun f cdv A outer s H vs Q E' hr h => ⟨_, (pss_cons (ps_set (i := 3) sc.nd rfl (by first | exact Or.inl rfl | exact Or.inr rfl) (pe_calM M__entry MT.cl (hr.mono (by first | decide | omega)) (passes_call (takes_of rfl rfl rfl rfl) (fun _ _ _ _ h => h)) (pv 0) (pa_cons (pv 1) pa_nil)))
  (pss_cons (ps_if (PW.pt (pw_or (pt_not (pt_val (pe_cal C_is_count (hr.mono (by first | decide | omega)) rfl pass0 (pa_cons (pv 2) pa_nil)))) (pw_or1 (pt_cmpR op_ge (pv 2) (k_fld (K := K) rfl (pv 3) rfl) (nomark _))))) (pss_one (k_raise rfl (takes_of rfl rfl rfl rfl) (k_mkx XX_BadCell rfl))) pss_nil)
  (pss_one (ps_ret (pe_ifExp (pt_cmpR op_lt (pv 2) (k_fld (K := K) rfl (pv 3) rfl) (nomark _)) (pe_ix (k_ix_list (K := K) rfl) (k_fld (K := K) rfl (pv 0) rfl) (pe_calM M__spot MT.cl (hr.mono (by first | decide | omega)) pass0 (pv 0) (pa_cons (pv 3) (pa_cons (pv 2) pa_nil))) (fun _ _ => rfl)) pe_non))))), h.enter fun ds lh P X hD => ?_⟩)
  obtain ⟨m, p, d, k, rfl, A0, Sn, nr, nk, hk⟩ := hD
  have hl := A0.len
  simp [A0.a, MT.cl, MT.n0]
  refine ⟨m, p, d, rfl, A0, nr, ?_⟩
  cases c : atHdl m d with
  | none =>
    have e : readO m d k = (.error .handle, m) := by simp [readO, c]
    rw [e] at hk
    exact hk lh A0 (Kp.refl _ _)
  | some i =>
    have hi := (atHdl_lt c).2.1
    have live := (atHdl_lt c).2.2.1
    have hi' : i < p.es.length := by omega
    intro _
    simp [D_is_count, nk]
    cases c2 : isCnt k with
    | false =>
      have e : readO m d k = (.error .cell, m) := by simp [readO, c, below_not c2]
      rw [e] at hk
      simp
      exact hk lh A0 (Kp.refl _ _)
    | true =>
      obtain ⟨j, rfl, j0⟩ := isCnt_int c2
      have en := A0.en i hi'
      simp [en, ET.cl, ET.n2]
      refine wCond.p (fun c3 => ?_) fun c3 => ?_
      · have : below (m.row i).size (.int j) = false := by simp [below]; omega
        have e : readO m d (.int j) = (.error .cell, m) := by simp [readO, c, this]
        rw [e] at hk
        exact hk lh A0 (Kp.refl _ _)
      · have : below (m.row i).size (.int j) = true := by simp [below]; omega
        have e : readO m d (.int j) = (.ok (if j < (m.row i).filled then m.peek (spot (m.row i) j) else .none), m) := by simp [readO, c, this, numI]; congr
        rw [e] at hk
        have hk := hk lh A0 (Kp.refl _ _)
        have RO := Sn.row i hi live
        simp [en, ET.cl, ET.n4]
        refine wCond.p (fun c4 => ?_) fun c4 => ?_
        · rw [if_pos c4] at hk
          obtain ⟨s0, s1⟩ := Sn.spot hi live j0 (by omega)
          simp [A0.a, MT.cl, MT.n0]
          refine ⟨_, _, _, _, rfl, en, ?_⟩
          simp [A0.arr, atI_peek s0 s1]
          exact hk
        · rw [if_neg c4] at hk
          exact hk
end
end K15
set_option Elab.async false
set_option linter.all false
set_option maxRecDepth 100000
set_option maxHeartbeats 4000000
set_option synthInstance.maxHeartbeats 1000000
set_option synthInstance.maxSize 1000000
namespace K15
open PySem PySem.Spec PyProof.Rows L2 Evl Pd Wl Mm
section
variable {P : Program} {w : World} {K : PySem.W.Frag} {mg : Str → Option Value} {base : Heap} {C E : Addr} {x : XA}
def D_place (C E : Addr) (x : XA) (ds : List PyData) (h : Lh) (P : Wv) (X : Addr → List (Str × PyData) → Lh → Prop) : Prop := ∃ m p d k, ds = [rf p.a, d, k] ∧ MemK C E m p h ∧ Snd m ∧ Nr2 d ∧ Nr k ∧ Go C E x p h (placeO m d k) P X
theorem cal_place (S : SrcM K C "place" "Memory.place" st_Memory_place ["self", "handle", "k"]) (T : Txt K mg) (MT : MTxt K C) (ET : ETxt K E) (XX_BadCell : XCls K mg "BadCell" x.cell) (C_is_count : Cal P w K mg base CX0 2 "is_count" ["value"] (SpW K D_is_count)) (M__spot : CalM P w K mg base CX0 1 C "_spot" ["self", "entry", "k"] (SpW K (D_spot E)))
    (M__entry : CalM P w K mg base (L2.CX P w) 5 C "_entry" ["self", "handle"] (SpX K (D_entry C E x.handle))) : CalM P w K mg base (L2.CX P w) 6 C "place" ["self", "handle", "k"] (SpX K (D_place C E x)) := by
  have sc := sc_Memory_place
  refine S.calX (k := 5) sc (SpX.len fun ds h P X z => by obtain ⟨_, _, _, _, rfl, _⟩ := z; rfl) (fun f cdv A outer s H vs Q E' hr h => ⟨_, (pss_cons (ps_set (i := 3) sc.nd rfl (by first | exact Or.inl rfl | exact Or.inr rfl) (pe_calM M__entry MT.cl (hr.mono (by first | decide | omega)) (passes_call (takes_of rfl rfl rfl rfl) (fun _ _ _ _ h => h)) (pv 0) (pa_cons (pv 1) pa_nil)))
  (pss_cons (ps_if (PW.pt (pw_or (pt_not (pt_val (pe_cal C_is_count (hr.mono (by first | decide | omega)) rfl pass0 (pa_cons (pv 2) pa_nil)))) (pw_or1 (pt_cmpR op_ge (pv 2) (k_fld (K := K) rfl (pv 3) rfl) (nomark _))))) (pss_one (k_raise rfl (takes_of rfl rfl rfl rfl) (k_mkx XX_BadCell rfl))) pss_nil)
  (pss_one (ps_ret (pe_calM M__spot MT.cl (hr.mono (by first | decide | omega)) pass0 (pv 0) (pa_cons (pv 3) (pa_cons (pv 2) pa_nil))))))), h.enter fun ds lh P X hD => ?_⟩)
  obtain ⟨m, p, d, k, rfl, A0, Sn, nr, nk, hk⟩ := hD
  have hl := A0.len
  simp [A0.a, MT.cl, MT.n0]
  refine ⟨m, p, d, rfl, A0, nr, ?_⟩
  cases c : atHdl m d with
  | none =>
    have e : placeO m d k = (.error .handle, m) := by simp [placeO, c]
    rw [e] at hk
    exact hk lh A0 (Kp.refl _ _)
  | some i =>
    have hi := (atHdl_lt c).2.1
    have hi' : i < p.es.length := by omega
    intro _
    simp [D_is_count, nk]
    cases c2 : isCnt k with
    | false =>
      have e : placeO m d k = (.error .cell, m) := by simp [placeO, c, below_not c2]
      rw [e] at hk
      simp
      exact hk lh A0 (Kp.refl _ _)
    | true =>
      obtain ⟨j, rfl, j0⟩ := isCnt_int c2
      have en := A0.en i hi'
      simp [en, ET.cl, ET.n2]
      refine wCond.p (fun c3 => ?_) fun c3 => ?_
      · have : below (m.row i).size (.int j) = false := by simp [below]; omega
        have e : placeO m d (.int j) = (.error .cell, m) := by simp [placeO, c, this]
        rw [e] at hk
        exact hk lh A0 (Kp.refl _ _)
      · have : below (m.row i).size (.int j) = true := by simp [below]; omega
        have e : placeO m d (.int j) = (.ok (.int (spot (m.row i) j)), m) := by simp [placeO, c, this, numI]
        rw [e] at hk
        have hk := hk lh A0 (Kp.refl _ _)
        simp [A0.a]
        exact ⟨_, _, _, _, rfl, en, hk⟩
def D_start (C E : Addr) (x : XA) (ds : List PyData) (h : Lh) (P : Wv) (X : Addr → List (Str × PyData) → Lh → Prop) : Prop := ∃ m p d, ds = [rf p.a, d] ∧ MemK C E m p h ∧ Snd m ∧ Nr d ∧ Go C E x p h (startO m d) P X
theorem cal_start (S : SrcM K C "start" "Memory.start" st_Memory_start ["self", "slot"]) (T : Txt K mg) (MT : MTxt K C) (ET : ETxt K E) (M__entry_at : CalM P w K mg base (L2.CX P w) 3 C "_entry_at" ["self", "slot"] (SpX K (D_entry_at C E x.handle))) : CalM P w K mg base (L2.CX P w) 4 C "start" ["self", "slot"] (SpX K (D_start C E x)) := by
  have sc := sc_Memory_start
  refine S.calX (k := 3) sc (SpX.len fun ds h P X z => by obtain ⟨_, _, _, rfl, _⟩ := z; rfl) (fun f cdv A outer s H vs Q E' hr h => ⟨_, (pss_one (ps_ret (k_fld (K := K) rfl (pe_calM M__entry_at MT.cl (hr.mono (by first | decide | omega)) (passes_call (takes_of rfl rfl rfl rfl) (fun _ _ _ _ h => h)) (pv 0) (pa_cons (pv 1) pa_nil)) rfl))), h.enter fun ds lh P X hD => ?_⟩)
  obtain ⟨m, p, d, rfl, A0, Sn, nr, hk⟩ := hD
  have hl := A0.len
  simp [A0.a]
  refine ⟨m, p, d, rfl, A0, nr, ?_⟩
  cases c : atSlot m d with
  | none =>
    have e : startO m d = (.error .handle, m) := by simp [startO, c]
    rw [e] at hk
    exact hk lh A0 (Kp.refl _ _)
  | some i =>
    have hi := (atSlot_lt c).2.1
    intro hi'
    have e : startO m d = (.ok (.int (m.row i).start), m) := by simp [startO, c]
    rw [e] at hk
    simp [A0.en i hi', ET.cl, ET.n3]
    exact hk lh A0 (Kp.refl _ _)
def D_free (C E : Addr) (x : XA) (ds : List PyData) (h : Lh) (P : Wv) (X : Addr → List (Str × PyData) → Lh → Prop) : Prop := ∃ m p d, ds = [rf p.a, d] ∧ MemK C E m p h ∧ Snd m ∧ Nr d ∧ Go C E x p h (freeO m d) P X
theorem cal_free (S : SrcM K C "free" "Memory.free" st_Memory_free ["self", "slot"]) (T : Txt K mg) (MT : MTxt K C) (ET : ETxt K E) (XX_BadMove : XCls K mg "BadMove" x.move) (M__entry_at : CalM P w K mg base (L2.CX P w) 3 C "_entry_at" ["self", "slot"] (SpX K (D_entry_at C E x.handle))) : CalM P w K mg base (L2.CX P w) 4 C "free" ["self", "slot"] (SpX K (D_free C E x)) := by
  have sc := sc_Memory_free
  refine S.calX (k := 3) sc (SpX.len fun ds h P X z => by obtain ⟨_, _, _, rfl, _⟩ := z; rfl) (fun f cdv A outer s H vs Q E' hr h => ⟨_, (pss_cons (ps_set (i := 2) sc.nd rfl (by first | exact Or.inl rfl | exact Or.inr rfl) (pe_calM M__entry_at MT.cl (hr.mono (by first | decide | omega)) (passes_call (takes_of rfl rfl rfl rfl) (fun _ _ _ _ h => h)) (pv 0) (pa_cons (pv 1) pa_nil)))
  (pss_cons (ps_if (pt_cmpR op_notN (k_fld (K := K) rfl (pv 2) rfl) pe_non (nomark _)) (pss_one (k_raise rfl (takes_of rfl rfl rfl rfl) (k_mkx XX_BadMove rfl))) pss_nil)
  (pss_cons (k_psfld (K := K) rfl (pv 2) pe_bl rfl)
  (pss_one (k_psfldaug (K := K) rfl (pv 2) pe_int in_add))))), h.enter fun ds lh P X hD => ?_⟩)
  obtain ⟨m, p, d, rfl, A0, Sn, nr, hk⟩ := hD
  have hl := A0.len
  simp [A0.a]
  refine ⟨m, p, d, rfl, A0, nr, ?_⟩
  cases c : atSlot m d with
  | none =>
    have e : freeO m d = (.error .handle, m) := by simp [freeO, c]
    rw [e] at hk
    exact hk lh A0 (Kp.refl _ _)
  | some i =>
    have hi := (atSlot_lt c).2.1
    intro hi'
    have en := A0.en i hi'
    cases c2 : (m.row i).to with
    | some t =>
      have e : freeO m d = (.error .move, m) := by simp [freeO, c, c2]
      rw [e] at hk
      simp [en, ET.cl, ET.n5, c2, oI]
      exact hk lh A0 (Kp.refl _ _)
    | none =>
      have e : freeO m d = (.ok .none, m.put i { m.row i with live := false, stamp := (m.row i).stamp + 1 }) := by simp [freeO, c, c2]
      rw [e] at hk
      have := hk _ (A0.putRow i hi' _) (Kp.put (Mp.mem_es hi'))
      simp [en, ET.cl, ET.n0, ET.n1, ET.n5, c2, oI]
      simpa [Row.f, c2, oI] using this
def D_size (C E : Addr) (x : XA) (ds : List PyData) (h : Lh) (P : Wv) (X : Addr → List (Str × PyData) → Lh → Prop) : Prop := ∃ m p d, ds = [rf p.a, d] ∧ MemK C E m p h ∧ Snd m ∧ Nr2 d ∧ Go C E x p h (sizeO m d) P X
def D_fill (C E : Addr) (x : XA) (ds : List PyData) (h : Lh) (P : Wv) (X : Addr → List (Str × PyData) → Lh → Prop) : Prop := ∃ m p d, ds = [rf p.a, d] ∧ MemK C E m p h ∧ Snd m ∧ Nr2 d ∧ Go C E x p h (fillO m d) P X
theorem cal_fill (S : SrcM K C "fill" "Memory.fill" st_Memory_fill ["self", "handle"]) (T : Txt K mg) (MT : MTxt K C) (ET : ETxt K E) (XX_BadCell : XCls K mg "BadCell" x.cell) (M__spot : CalM P w K mg base CX0 1 C "_spot" ["self", "entry", "k"] (SpW K (D_spot E)))
    (M__entry : CalM P w K mg base (L2.CX P w) 5 C "_entry" ["self", "handle"] (SpX K (D_entry C E x.handle))) : CalM P w K mg base (L2.CX P w) 6 C "fill" ["self", "handle"] (SpX K (D_fill C E x)) := by
  have sc := sc_Memory_fill
  refine S.calX (k := 5) sc (SpX.len fun ds h P X z => by obtain ⟨_, _, _, rfl, _⟩ := z; rfl) (fun f cdv A outer s H vs Q E' hr h => ⟨_, (pss_cons (ps_set (i := 2) sc.nd rfl (by first | exact Or.inl rfl | exact Or.inr rfl) (pe_calM M__entry MT.cl (hr.mono (by first | decide | omega)) (passes_call (takes_of rfl rfl rfl rfl) (fun _ _ _ _ h => h)) (pv 0) (pa_cons (pv 1) pa_nil)))
  (pss_cons (ps_if (pt_cmpR op_eq (k_fld (K := K) rfl (pv 2) rfl) (k_fld (K := K) rfl (pv 2) rfl) (nomark _)) (pss_one (k_raise rfl (takes_of rfl rfl rfl rfl) (k_mkx XX_BadCell rfl))) pss_nil)
  (pss_cons (ps_asg pe_non (pg_sub (k_fld (K := K) rfl (pv 0) rfl) (pe_calM M__spot MT.cl (hr.mono (by first | decide | omega)) pass0 (pv 0) (pa_cons (pv 2) (pa_cons (k_fld (K := K) rfl (pv 2) rfl) pa_nil))) set_list))
  (pss_cons (k_psfldaug (K := K) rfl (pv 2) pe_int in_add)
  (pss_one (ps_ret (pe_cmpR op_eq (k_fld (K := K) rfl (pv 2) rfl) (k_fld (K := K) rfl (pv 2) rfl) (nomark _)))))))), h.enter fun ds lh P X hD => ?_⟩)
  obtain ⟨m, p, d, rfl, A0, Sn, nr, hk⟩ := hD
  have hl := A0.len
  simp [A0.a, MT.cl, MT.n0]
  refine ⟨m, p, d, rfl, A0, nr, ?_⟩
  cases c : atHdl m d with
  | none =>
    have e : fillO m d = (.error .handle, m) := by simp [fillO, c]
    rw [e] at hk
    exact hk lh A0 (Kp.refl _ _)
  | some i =>
    have hi := (atHdl_lt c).2.1
    have live := (atHdl_lt c).2.2.1
    intro hi'
    have en := A0.en i hi'
    have RO := Sn.row i hi live
    have f0 := RO.fil0
    have f1 := RO.fil
    simp [en, ET.cl, ET.n2, ET.n4]
    refine wCond.p (fun c3 => ?_) fun c3 => ?_
    · have e : fillO m d = (.error .cell, m) := by simp [fillO, c, c3]
      rw [e] at hk
      exact hk lh A0 (Kp.refl _ _)
    · have e : fillO m d = (.ok (.bool (decide ((m.row i).filled + 1 = (m.row i).size))), (m.poke (spot (m.row i) (m.row i).filled) .none).put i { m.row i with filled := (m.row i).filled + 1 }) := by simp [fillO, c, c3]
      rw [e] at hk
      obtain ⟨s0, s1⟩ := Sn.spot hi live f0 (by omega)
      have A1 := A0.putAr (m.ar.set (spot (m.row i) (m.row i).filled).toNat .none)
      have A2 := A1.putRow i hi' { m.row i with filled := (m.row i).filled + 1 }
      have := hk _ A2 ((Kp.put (Mp.mem_ar p)).put2 (Mp.mem_es hi'))
      have ne := A0.ne_es hi'
      have ne2 := A0.ne_a
      simp [A0.a, MT.cl, MT.n0]
      refine ⟨_, _, _, _, rfl, en, ?_⟩
      simp [A0.arr, ixN_int s0 s1, up_ne ne.2.1.symm, en, ET.cl, ET.n2, ET.n4]
      simpa [Row.f] using this
end
end K15
set_option Elab.async false
set_option linter.all false
set_option maxRecDepth 100000
set_option maxHeartbeats 4000000
set_option synthInstance.maxHeartbeats 1000000
set_option synthInstance.maxSize 1000000
namespace K15
open PySem PySem.Spec PyProof.Rows L2 Evl Pd Wl Mm
section
variable {P : Program} {w : World} {K : PySem.W.Frag} {mg : Str → Option Value} {base : Heap} {C E : Addr} {x : XA}
def D_write (C E : Addr) (x : XA) (ds : List PyData) (h : Lh) (P : Wv) (X : Addr → List (Str × PyData) → Lh → Prop) : Prop := ∃ m p d k v, ds = [rf p.a, d, k, v] ∧ MemK C E m p h ∧ Snd m ∧ Nr2 d ∧ Nr k ∧ Nr2 v ∧ Go C E x p h (writeO m d k v) P X
theorem cal_write (S : SrcM K C "write" "Memory.write" st_Memory_write ["self", "handle", "k", "value"]) (T : Txt K mg) (MT : MTxt K C) (ET : ETxt K E) (XX_BadCell : XCls K mg "BadCell" x.cell) (XX_BadValue : XCls K mg "BadValue" x.value) (C_is_count : Cal P w K mg base CX0 2 "is_count" ["value"] (SpW K D_is_count)) (C_is_value : Cal P w K mg base CX0 4 "is_value" ["value"] (SpW K D_is_value)) (M__spot : CalM P w K mg base CX0 1 C "_spot" ["self", "entry", "k"] (SpW K (D_spot E)))
    (M__entry : CalM P w K mg base (L2.CX P w) 5 C "_entry" ["self", "handle"] (SpX K (D_entry C E x.handle))) : CalM P w K mg base (L2.CX P w) 6 C "write" ["self", "handle", "k", "value"] (SpX K (D_write C E x)) := by
  have sc := sc_Memory_write
  refine S.calX (k := 5) sc (SpX.len fun ds h P X z => by obtain ⟨_, _, _, _, _, rfl, _⟩ := z; rfl) (fun f cdv A outer s H vs Q E' hr h => ⟨_, (pss_cons (ps_set (i := 4) sc.nd rfl (by first | exact Or.inl rfl | exact Or.inr rfl) (pe_calM M__entry MT.cl (hr.mono (by first | decide | omega)) (passes_call (takes_of rfl rfl rfl rfl) (fun _ _ _ _ h => h)) (pv 0) (pa_cons (pv 1) pa_nil)))
  (pss_cons (ps_if (PW.pt (pw_or (pt_not (pt_val (pe_cal C_is_count (hr.mono (by first | decide | omega)) rfl pass0 (pa_cons (pv 2) pa_nil)))) (pw_or1 (pt_cmpR op_ge (pv 2) (k_fld (K := K) rfl (pv 4) rfl) (nomark _))))) (pss_one (k_raise rfl (takes_of rfl rfl rfl rfl) (k_mkx XX_BadCell rfl))) pss_nil)
  (pss_cons (ps_if (pt_not (pt_val (pe_cal C_is_value (hr.mono (by first | decide | omega)) rfl pass0 (pa_cons (pv 3) pa_nil)))) (pss_one (k_raise rfl (takes_of rfl rfl rfl rfl) (k_mkx XX_BadValue rfl))) pss_nil)
  (pss_cons (ps_set (i := 5) sc.nd rfl (by first | exact Or.inl rfl | exact Or.inr rfl) (pe_calM M__spot MT.cl (hr.mono (by first | decide | omega)) pass0 (pv 0) (pa_cons (pv 4) (pa_cons (pv 2) pa_nil))))
  (pss_cons (ps_set (i := 6) sc.nd rfl (by first | exact Or.inl rfl | exact Or.inr rfl) (pe_ix (k_ix_list (K := K) rfl) (k_fld (K := K) rfl (pv 0) rfl) (pv 5) (fun _ _ => rfl)))
  (pss_cons (ps_asg (pv 3) (pg_sub (k_fld (K := K) rfl (pv 0) rfl) (pv 5) set_list))
  (pss_one (ps_ret (pv 6))))))))), h.enter fun ds lh P X hD => ?_⟩)
  obtain ⟨m, p, d, k, v, rfl, A0, Sn, nr, nk, nv, hk⟩ := hD
  have hl := A0.len
  simp [A0.a, MT.cl, MT.n0]
  refine ⟨m, p, d, rfl, A0, nr, ?_⟩
  cases c : atHdl m d with
  | none =>
    have e : writeO m d k v = (.error .handle, m) := by simp [writeO, c]
    rw [e] at hk
    exact hk lh A0 (Kp.refl _ _)
  | some i =>
    have hi := (atHdl_lt c).2.1
    have live := (atHdl_lt c).2.2.1
    have hi' : i < p.es.length := by omega
    intro _
    have RO := Sn.row i hi live
    have f1 := RO.fil
    simp [D_is_count, nk]
    cases c2 : isCnt k with
    | false =>
      have e : writeO m d k v = (.error .cell, m) := by simp [writeO, c, below_not c2]
      rw [e] at hk
      simp
      exact hk lh A0 (Kp.refl _ _)
    | true =>
      obtain ⟨j, rfl, j0⟩ := isCnt_int c2
      have en := A0.en i hi'
      simp [en, ET.cl, ET.n4]
      refine wCond.p (fun c3 => ?_) fun c3 => ?_
      · have : below (m.row i).filled (.int j) = false := by simp [below]; omega
        have e : writeO m d (.int j) v = (.error .cell, m) := by simp [writeO, c, this]
        rw [e] at hk
        exact hk lh A0 (Kp.refl _ _)
      · have : below (m.row i).filled (.int j) = true := by simp [below]; omega
        simp [D_is_value, nv]
        cases c4 : isVal v with
        | false =>
          have e : writeO m d (.int j) v = (.error .value, m) := by simp [writeO, c, this, c4]
          rw [e] at hk
          simp
          exact hk lh A0 (Kp.refl _ _)
        | true =>
          have e : writeO m d (.int j) v = (.ok (m.peek (spot (m.row i) j)), m.poke (spot (m.row i) j) v) := by simp [writeO, c, this, numI, c4]
          rw [e] at hk
          obtain ⟨s0, s1⟩ := Sn.spot hi live j0 (by omega)
          have := hk _ (A0.putAr (m.ar.set (spot (m.row i) j).toNat v)) (Kp.put (Mp.mem_ar p))
          simp [A0.a, MT.cl, MT.n0]
          refine ⟨_, _, _, _, rfl, en, ?_⟩
          simp [A0.a, A0.arr, atI_peek s0 s1, ixN_int s0 s1, MT.cl, MT.n0]
          exact this
def D_turn (C E : Addr) (x : XA) (ds : List PyData) (h : Lh) (P : Wv) (X : Addr → List (Str × PyData) → Lh → Prop) : Prop := ∃ m p d, ds = [rf p.a, d] ∧ MemK C E m p h ∧ Snd m ∧ Nr d ∧ Go C E x p h (turnO m d) P X
theorem cal_turn (S : SrcM K C "turn" "Memory.turn" st_Memory_turn ["self", "slot"]) (T : Txt K mg) (MT : MTxt K C) (ET : ETxt K E) (XX_BadMove : XCls K mg "BadMove" x.move) (M__entry_at : CalM P w K mg base (L2.CX P w) 3 C "_entry_at" ["self", "slot"] (SpX K (D_entry_at C E x.handle))) : CalM P w K mg base (L2.CX P w) 4 C "turn" ["self", "slot"] (SpX K (D_turn C E x)) := by
  have sc := sc_Memory_turn
  refine S.calX (k := 3) sc (SpX.len fun ds h P X z => by obtain ⟨_, _, _, rfl, _⟩ := z; rfl) (fun f cdv A outer s H vs Q E' hr h => ⟨_, (pss_cons (ps_set (i := 2) sc.nd rfl (by first | exact Or.inl rfl | exact Or.inr rfl) (pe_calM M__entry_at MT.cl (hr.mono (by first | decide | omega)) (passes_call (takes_of rfl rfl rfl rfl) (fun _ _ _ _ h => h)) (pv 0) (pa_cons (pv 1) pa_nil)))
  (pss_cons (ps_if (PW.pt (pw_or (pt_cmpR op_isN (k_fld (K := K) rfl (pv 2) rfl) pe_non (nomark _)) (pw_or1 (pt_cmpR op_lt (k_fld (K := K) rfl (pv 2) rfl) (k_fld (K := K) rfl (pv 2) rfl) (nomark _))))) (pss_one (k_raise rfl (takes_of rfl rfl rfl rfl) (k_mkx XX_BadMove rfl))) pss_nil)
  (pss_cons (k_psfld (K := K) rfl (pv 2) (k_fld (K := K) rfl (pv 2) rfl) rfl)
  (pss_cons (k_psfld (K := K) rfl (pv 2) pe_non rfl)
  (pss_one (k_psfld (K := K) rfl (pv 2) pe_int rfl)))))), h.enter fun ds lh P X hD => ?_⟩)
  obtain ⟨m, p, d, rfl, A0, Sn, nr, hk⟩ := hD
  have hl := A0.len
  simp [A0.a]
  refine ⟨m, p, d, rfl, A0, nr, ?_⟩
  cases c : atSlot m d with
  | none =>
    have e : turnO m d = (.error .handle, m) := by simp [turnO, c]
    rw [e] at hk
    exact hk lh A0 (Kp.refl _ _)
  | some i =>
    have hi := (atSlot_lt c).2.1
    intro hi'
    have en := A0.en i hi'
    cases c2 : (m.row i).to with
    | none =>
      have e : turnO m d = (.error .move, m) := by simp [turnO, c, c2]
      rw [e] at hk
      simp [en, ET.cl, ET.n5, c2, oI]
      exact hk lh A0 (Kp.refl _ _)
    | some t =>
      simp [en, ET.cl, ET.n2, ET.n5, ET.n6, c2, oI]
      refine wCond.p (fun c3 => ?_) fun c3 => ?_
      · have e : turnO m d = (.error .move, m) := by simp [turnO, c, c2, c3]
        rw [e] at hk
        exact hk lh A0 (Kp.refl _ _)
      · have e : turnO m d = (.ok .none, m.put i { m.row i with start := t, to := none, done := 0 }) := by simp [turnO, c, c2, c3]
        rw [e] at hk
        have := hk _ (A0.putRow i hi' _) (Kp.put (Mp.mem_es hi'))
        simp [en, ET.cl, ET.n3, ET.n5, ET.n6, c2, oI]
        simpa [Row.f, c2, oI] using this
end
end K15
set_option Elab.async false
set_option linter.all false
set_option maxRecDepth 100000
set_option maxHeartbeats 4000000
set_option synthInstance.maxHeartbeats 1000000
set_option synthInstance.maxSize 1000000
namespace K15
open PySem PySem.Spec PyProof.Rows L2 Evl Pd Wl Mm
section
variable {P : Program} {w : World} {K : PySem.W.Frag} {mg : Str → Option Value} {base : Heap} {C E : Addr} {x : XA}
def D_copy (C E : Addr) (x : XA) (ds : List PyData) (h : Lh) (P : Wv) (X : Addr → List (Str × PyData) → Lh → Prop) : Prop := ∃ m p d, ds = [rf p.a, d] ∧ MemK C E m p h ∧ Snd m ∧ Nr d ∧ Go C E x p h (copyO m d) P X
theorem cal_copy (S : SrcM K C "copy_cell" "Memory.copy_cell" st_Memory_copy_cell ["self", "slot"]) (T : Txt K mg) (MT : MTxt K C) (ET : ETxt K E) (XX_BadMove : XCls K mg "BadMove" x.move) (M__entry_at : CalM P w K mg base (L2.CX P w) 3 C "_entry_at" ["self", "slot"] (SpX K (D_entry_at C E x.handle))) : CalM P w K mg base (L2.CX P w) 4 C "copy_cell" ["self", "slot"] (SpX K (D_copy C E x)) := by
  have sc := sc_Memory_copy_cell
  refine S.calX (k := 3) sc (SpX.len fun ds h P X z => by obtain ⟨_, _, _, rfl, _⟩ := z; rfl) (fun f cdv A outer s H vs Q E' hr h => ⟨_, (pss_cons (ps_set (i := 2) sc.nd rfl (by first | exact Or.inl rfl | exact Or.inr rfl) (pe_calM M__entry_at MT.cl (hr.mono (by first | decide | omega)) (passes_call (takes_of rfl rfl rfl rfl) (fun _ _ _ _ h => h)) (pv 0) (pa_cons (pv 1) pa_nil)))
  (pss_cons (ps_if (PW.pt (pw_or (pt_cmpR op_isN (k_fld (K := K) rfl (pv 2) rfl) pe_non (nomark _)) (pw_or1 (pt_cmpR op_eq (k_fld (K := K) rfl (pv 2) rfl) (k_fld (K := K) rfl (pv 2) rfl) (nomark _))))) (pss_one (k_raise rfl (takes_of rfl rfl rfl rfl) (k_mkx XX_BadMove rfl))) pss_nil)
  (pss_cons (ps_asg (pe_ix (k_ix_list (K := K) rfl) (k_fld (K := K) rfl (pv 0) rfl) (pe_op op_add (k_fld (K := K) rfl (pv 2) rfl) (k_fld (K := K) rfl (pv 2) rfl)) (fun _ _ => rfl)) (pg_sub (k_fld (K := K) rfl (pv 0) rfl) (pe_op op_add (k_fld (K := K) rfl (pv 2) rfl) (k_fld (K := K) rfl (pv 2) rfl)) set_list))
  (pss_cons (k_psfldaug (K := K) rfl (pv 2) pe_int in_add)
  (pss_one (ps_ret (pe_cmpR op_eq (k_fld (K := K) rfl (pv 2) rfl) (k_fld (K := K) rfl (pv 2) rfl) (nomark _)))))))), h.enter fun ds lh P X hD => ?_⟩)
  obtain ⟨m, p, d, rfl, A0, Sn, nr, hk⟩ := hD
  have hl := A0.len
  simp [A0.a]
  refine ⟨m, p, d, rfl, A0, nr, ?_⟩
  cases c : atSlot m d with
  | none =>
    have e : copyO m d = (.error .handle, m) := by simp [copyO, c]
    rw [e] at hk
    exact hk lh A0 (Kp.refl _ _)
  | some i =>
    have hi := (atSlot_lt c).2.1
    have live := (atSlot_lt c).2.2
    intro hi'
    have en := A0.en i hi'
    have RO := Sn.row i hi live
    cases c2 : (m.row i).to with
    | none =>
      have e : copyO m d = (.error .move, m) := by simp [copyO, c, c2]
      rw [e] at hk
      simp [en, ET.cl, ET.n5, c2, oI]
      exact hk lh A0 (Kp.refl _ _)
    | some t =>
      obtain ⟨t0, t1, t2⟩ := RO.to t c2
      have d0 := RO.dn0
      have h2 := RO.hi
      have h3 := Sn.eL
      have h4 := RO.st0
      simp [en, ET.cl, ET.n2, ET.n5, ET.n6, c2, oI]
      refine wCond.p (fun c3 => ?_) fun c3 => ?_
      · have e : copyO m d = (.error .move, m) := by simp [copyO, c, c2, c3]
        rw [e] at hk
        exact hk lh A0 (Kp.refl _ _)
      · have e : copyO m d = (.ok (.bool (decide ((m.row i).done + 1 = (m.row i).size))), (m.poke (t + (m.row i).done) (m.peek ((m.row i).start + (m.row i).done))).put i { m.row i with done := (m.row i).done + 1 }) := by simp [copyO, c, c2, c3]
        rw [e] at hk
        have A1 := A0.putAr (m.ar.set (t + (m.row i).done).toNat (m.peek ((m.row i).start + (m.row i).done)))
        have A2 := A1.putRow i hi' { m.row i with done := (m.row i).done + 1 }
        have := hk _ A2 ((Kp.put (Mp.mem_ar p)).put2 (Mp.mem_es hi'))
        have ne := A0.ne_es hi'
        have q1 := atI_peek (m := m) (k := (m.row i).start + (m.row i).done) (by omega) (by omega)
        have q2 := ixN_int (n := m.ar.length) (k := t + (m.row i).done) (by omega) (by omega)
        simp [A0.a, A0.arr, MT.cl, MT.n0, en, ET.cl, ET.n2, ET.n3, ET.n5, ET.n6, c2, oI, q1, q2, up_ne ne.2.1.symm]
        simpa [Row.f, c2, oI] using this
def D_state (C E : Addr) (ds : List PyData) (h : Lh) (P : Wv) : Prop := ∃ m p, ds = [rf p.a] ∧ MemK C E m p h ∧ Snd m ∧ P (stateD m) h
theorem cal_state (S : SrcM K C "state" "Memory.state" st_Memory_state ["self"]) (T : Txt K mg) (MT : MTxt K C) (ET : ETxt K E) (M_row : CalM P w K mg base CX0 1 E "row" ["self"] (SpW K (D_row E))) : CalM P w K mg base CX0 2 C "state" ["self"] (SpW K (D_state C E)) := by
  have sc := sc_Memory_state
  refine S.cal (k := 1) sc (SpW.len fun ds h P z => by obtain ⟨_, _, rfl, _⟩ := z; rfl) (fun f cdv A outer s H vs Q E' hr h => ⟨_, (pss_one (ps_ret (pe_tup (pa_cons (pe_callTy (k_tuple_of (K := K) rfl) (by rfl) T.n_tuple (by decide +kernel) (pa_cons (k_fld (K := K) rfl (pv 0) rfl) pa_nil)) (pa_cons (pe_callTy (k_tuple_of (K := K) rfl) (by rfl) T.n_tuple (by decide +kernel) (pa_cons (pe_lc (own := [("entry", 1)]) rfl sc.nd (k_pi_list (K := K) rfl (k_fld (K := K) rfl (pv 0) rfl)) (blkOk_by (by first | decide +kernel | kernel_rfl)) (fun _ _ _ _ _ => (pg_name (i := 1) sc.nd rfl (by first | exact Or.inl rfl | exact Or.inr rfl))) (fun _ _ _ _ _ => pts_nil) (fun _ _ _ _ _ => (pe_calM0 M_row ET.cl (hr.mono (by first | decide | omega)) pass0 (pv 1)))) pa_nil)) (pa_cons (k_fld (K := K) rfl (pv 0) rfl) pa_nil)))))), h.enter fun ds lh P hD => ?_⟩)
  obtain ⟨m, p, rfl, A0, Sn, hk⟩ := hD
  have hl := A0.len
  have rc := Sn.rc
  have ac := Sn.ac
  simp [A0.a, A0.arr, A0.tbl, MT.cl, MT.n0, MT.n1, MT.n2, qv, lv]
  rw [es_range]
  refine lcL_map (l := List.range p.es.length) (emb := fun i => rf (p.es.getD i 0)) (fun i => .tuple (m.row i).ds) (by simp [A0.tbl, es_range]) (by simp; omega) (fun i hi F hF => ?_) ?_
  · have hi' : i < p.es.length := List.mem_range.mp hi
    rw [getD_es hi']
    simp [A0.en i hi']
    exact ⟨_, _, rfl, A0.en i hi', hF⟩
  · have e : stateD m = .tuple [.tuple m.ar, .tuple ((List.range p.es.length).map fun i => .tuple (m.row i).ds), .int m.e] := by
      unfold stateD
      conv => lhs; rw [rows_range m, List.map_map, ← hl]
      rfl
    rw [e] at hk
    simp [A0.a, MT.cl, MT.n2]
    simpa using hk
end
end K15
set_option Elab.async false
set_option linter.all false
set_option maxRecDepth 100000
set_option maxHeartbeats 4000000
set_option synthInstance.maxHeartbeats 1000000
set_option synthInstance.maxSize 1000000
namespace K15
open PySem PySem.Spec PyProof.Rows L2 Evl Pd Wl Mm
theorem any_rows (m : Mem) (q : Mm.Row → Bool) : ((List.range m.rows.length).map fun i => q (m.row i)).any id = m.rows.any q := by
  conv => rhs; rw [rows_range m]
  rw [List.any_map, List.any_map]
  rfl
section
variable {P : Program} {w : World} {K : PySem.W.Frag} {mg : Str → Option Value} {base : Heap} {C E : Addr} {x : XA}
def D_settle (C E : Addr) (x : XA) (ds : List PyData) (h : Lh) (P : Wv) (X : Addr → List (Str × PyData) → Lh → Prop) : Prop := ∃ m p d, ds = [rf p.a, d] ∧ MemK C E m p h ∧ Snd m ∧ Nr d ∧ Go C E x p h (settleO m d) P X
theorem cal_settle (S : SrcM K C "settle" "Memory.settle" st_Memory_settle ["self", "frontier"]) (T : Txt K mg) (MT : MTxt K C) (ET : ETxt K E) (XX_BadMove : XCls K mg "BadMove" x.move) (C_is_count : Cal P w K mg base CX0 2 "is_count" ["value"] (SpW K D_is_count)) (M_moving : CalM P w K mg base CX0 1 C "moving" ["self"] (SpW K (D_moving C E))) (M_high : CalM P w K mg base CX0 1 E "high" ["self"] (SpW K (D_high E))) : CalM P w K mg base (L2.CX P w) 3 C "settle" ["self", "frontier"] (SpX K (D_settle C E x)) := by
  have sc := sc_Memory_settle
  refine S.calX (k := 2) sc (SpX.len fun ds h P X z => by obtain ⟨_, _, _, rfl, _⟩ := z; rfl) (fun f cdv A outer s H vs Q E' hr h => ⟨_, (pss_cons (ps_if (PW.pt (pw_or (pt_cmpR op_notN (pe_calM0 M_moving MT.cl (hr.mono (by first | decide | omega)) pass0 (pv 0)) pe_non (nomark _)) (pw_or (pt_not (pt_val (pe_cal C_is_count (hr.mono (by first | decide | omega)) rfl pass0 (pa_cons (pv 1) pa_nil)))) (pw_or1 (pt_cmpR op_gt (pv 1) (k_fld (K := K) rfl (pv 0) rfl) (nomark _)))))) (pss_one (k_raise rfl (takes_of rfl rfl rfl rfl) (k_mkx XX_BadMove rfl))) pss_nil)
  (pss_cons (ps_if (pt_val (pe_callB (k_any (K := K) rfl rfl) (by rfl) T.n_any (by decide +kernel) (pa_cons (pe_lc (own := [("entry", 2)]) rfl sc.nd (k_pi_list (K := K) rfl (k_fld (K := K) rfl (pv 0) rfl)) (blkOk_by (by first | decide +kernel | kernel_rfl)) (fun _ _ _ _ _ => (pg_name (i := 2) sc.nd rfl (by first | exact Or.inl rfl | exact Or.inr rfl))) (fun _ _ _ _ _ => pts_nil) (fun _ _ _ _ _ => (pe_and (k_fld (K := K) rfl (pv 2) rfl) (pe_one (pe_cmpR op_gt (pe_calM0 M_high ET.cl (hr.mono (by first | decide | omega)) pass0 (pv 2)) (pv 1) (nomark _)))))) pa_nil))) (pss_one (k_raise rfl (takes_of rfl rfl rfl rfl) (k_mkx XX_BadMove rfl))) pss_nil)
  (pss_one (k_psfld (K := K) rfl (pv 0) (pv 1) rfl)))), h.enter fun ds lh P X hD => ?_⟩)
  obtain ⟨m, p, d, rfl, A0, Sn, nr, hk⟩ := hD
  have hl := A0.len
  have rc := Sn.rc
  simp [A0.a]
  refine ⟨m, p, rfl, A0, Sn.rc, ?_⟩
  cases c : mover m with
  | some i =>
    have e : settleO m d = (.error .move, m) := by simp [settleO, c]
    rw [e] at hk
    simp
    exact hk lh A0 (Kp.refl _ _)
  | none =>
    simp [D_is_count, nr]
    cases c2 : isCnt d with
    | false =>
      have e : settleO m d = (.error .move, m) := by simp [settleO, c, below_not c2]
      rw [e] at hk
      simp
      exact hk lh A0 (Kp.refl _ _)
    | true =>
      obtain ⟨j, rfl, j0⟩ := isCnt_int c2
      simp [A0.a, MT.cl, MT.n1, MT.n2]
      refine wCond.p (fun c3 => ?_) fun c3 => ?_
      · have : below (m.e + 1) (.int j) = false := by simp [below]; omega
        have e : settleO m (.int j) = (.error .move, m) := by simp [settleO, c, this]
        rw [e] at hk
        exact hk lh A0 (Kp.refl _ _)
      · have : below (m.e + 1) (.int j) = true := by simp [below]; omega
        simp [A0.a, MT.cl, MT.n1, A0.tbl, lv, qv]
        rw [es_range]
        refine lcL_map (l := List.range p.es.length) (emb := fun i => rf (p.es.getD i 0)) (fun i => .bool ((m.row i).live && decide (j < (m.row i).start + (m.row i).size))) (by simp [A0.tbl, es_range]) (by simp; omega) (fun i hi F hF => ?_) ?_
        · have hi' : i < p.es.length := List.mem_range.mp hi
          rw [getD_es hi']
          have en := A0.en i hi'
          simp [en, ET.cl, ET.n1]
          cases lv : (m.row i).live with
          | true =>
            simp [lv] at hF
            simp [en, ET.cl]
            exact ⟨_, _, rfl, en, by simpa using hF⟩
          | false =>
            simp [lv] at hF
            simpa using hF
        · refine ⟨_, boolL_mapF _ _, ?_⟩
          rw [hl, any_rows m fun r => r.live && decide (j < r.start + r.size)]
          have k2 : ∀ b : Bool, m.rows.any (fun r => r.live && decide (j < r.start + r.size)) = b → settleO m (.int j) = if b then (.error .move, m) else (.ok .none, { m with e := j }) := fun b hb => by
            simp only [settleO, c, this, numI]
            simp only [gt_iff_lt, hb]
            simp
          refine wCond_b (fun hb => ?_) fun hb => ?_
          · rw [k2 _ hb] at hk
            exact hk lh A0 (Kp.refl _ _)
          · rw [k2 _ hb] at hk
            have := hk _ (A0.putE j) (Kp.put (Mp.mem_a p))
            simp [A0.a, MT.cl, MT.n2]
            exact this
end
end K15
set_option Elab.async false
set_option linter.all false
set_option maxRecDepth 100000
set_option maxHeartbeats 4000000
set_option synthInstance.maxHeartbeats 1000000
set_option synthInstance.maxSize 1000000
namespace K15
open PySem PySem.Spec PyProof.Rows L2 Evl Pd Wl Mm
section
variable {P : Program} {w : World} {K : PySem.W.Frag} {mg : Str → Option Value} {base : Heap} {C E : Addr} {x : XA}
def D_begin (C E : Addr) (x : XA) (ds : List PyData) (h : Lh) (P : Wv) (X : Addr → List (Str × PyData) → Lh → Prop) : Prop := ∃ m p d t, ds = [rf p.a, d, t] ∧ MemK C E m p h ∧ Snd m ∧ Nr d ∧ Nr t ∧ Go C E x p h (beginO m d t) P X
theorem cal_begin (S : SrcM K C "begin_move" "Memory.begin_move" st_Memory_begin_move ["self", "slot", "to"]) (T : Txt K mg) (MT : MTxt K C) (ET : ETxt K E) (XX_BadMove : XCls K mg "BadMove" x.move) (C_is_count : Cal P w K mg base CX0 2 "is_count" ["value"] (SpW K D_is_count)) (M__entry_at : CalM P w K mg base (L2.CX P w) 3 C "_entry_at" ["self", "slot"] (SpX K (D_entry_at C E x.handle))) (M_moving : CalM P w K mg base CX0 1 C "moving" ["self"] (SpW K (D_moving C E))) (M_high : CalM P w K mg base CX0 1 E "high" ["self"] (SpW K (D_high E))) : CalM P w K mg base (L2.CX P w) 4 C "begin_move" ["self", "slot", "to"] (SpX K (D_begin C E x)) := by
  have sc := sc_Memory_begin_move
  refine S.calX (k := 3) sc (SpX.len fun ds h P X z => by obtain ⟨_, _, _, _, rfl, _⟩ := z; rfl) (fun f cdv A outer s H vs Q E' hr h => ⟨_, (pss_cons (ps_set (i := 3) sc.nd rfl (by first | exact Or.inl rfl | exact Or.inr rfl) (pe_calM M__entry_at MT.cl (hr.mono (by first | decide | omega)) (passes_call (takes_of rfl rfl rfl rfl) (fun _ _ _ _ h => h)) (pv 0) (pa_cons (pv 1) pa_nil)))
  (pss_cons (ps_if (PW.pt (pw_or (pt_cmpR op_notN (pe_calM0 M_moving MT.cl (hr.mono (by first | decide | omega)) pass0 (pv 0)) pe_non (nomark _)) (pw_or (pt_not (pt_val (pe_cal C_is_count (hr.mono (by first | decide | omega)) rfl pass0 (pa_cons (pv 2) pa_nil)))) (pw_or1 (pt_cmpR op_ge (pv 2) (k_fld (K := K) rfl (pv 3) rfl) (nomark _)))))) (pss_one (k_raise rfl (takes_of rfl rfl rfl rfl) (k_mkx XX_BadMove rfl))) pss_nil)
  (pss_cons (ps_if (pt_val (pe_callB (k_any (K := K) rfl rfl) (by rfl) T.n_any (by decide +kernel) (pa_cons (pe_lc (own := [("other", 4)]) rfl sc.nd (k_pi_list (K := K) rfl (k_fld (K := K) rfl (pv 0) rfl)) (blkOk_by (by first | decide +kernel | kernel_rfl)) (fun _ _ _ _ _ => (pg_name (i := 4) sc.nd rfl (by first | exact Or.inl rfl | exact Or.inr rfl))) (fun _ _ _ _ _ => pts_nil) (fun _ _ _ _ _ => (pe_and (k_fld (K := K) rfl (pv 4) rfl) (pe_and (pe_cmpR op_lt (k_fld (K := K) rfl (pv 4) rfl) (k_fld (K := K) rfl (pv 3) rfl) (nomark _)) (pe_one (pe_cmpR op_gt (pe_calM0 M_high ET.cl (hr.mono (by first | decide | omega)) pass0 (pv 4)) (pv 2) (nomark _))))))) pa_nil))) (pss_one (k_raise rfl (takes_of rfl rfl rfl rfl) (k_mkx XX_BadMove rfl))) pss_nil)
  (pss_cons (k_psfld (K := K) rfl (pv 3) (pv 2) rfl)
  (pss_one (k_psfld (K := K) rfl (pv 3) pe_int rfl)))))), h.enter fun ds lh P X hD => ?_⟩)
  obtain ⟨m, p, d, t, rfl, A0, Sn, nr, nt, hk⟩ := hD
  have hl := A0.len
  have rc := Sn.rc
  simp [A0.a]
  refine ⟨m, p, d, rfl, A0, nr, ?_⟩
  cases c0 : atSlot m d with
  | none =>
    have e : beginO m d t = (.error .handle, m) := by simp [beginO, c0]
    rw [e] at hk
    exact hk lh A0 (Kp.refl _ _)
  | some s =>
    intro hs'
    have ens := A0.en s hs'
    simp [A0.a]
    refine ⟨m, p, rfl, A0, Sn.rc, ?_⟩
    cases c : mover m with
    | some i =>
      have e : beginO m d t = (.error .move, m) := by simp [beginO, c0, c]
      rw [e] at hk
      simp
      exact hk lh A0 (Kp.refl _ _)
    | none =>
      simp [D_is_count, nt]
      cases c2 : isCnt t with
      | false =>
        have c3 : isTo (m.row s) t = false := by
          cases t with
          | int j => simp [isCnt] at c2; simp [isTo]; omega
          | _ => rfl
        have e : beginO m d t = (.error .move, m) := by simp [beginO, c0, c, c3]
        rw [e] at hk
        simp
        exact hk lh A0 (Kp.refl _ _)
      | true =>
        obtain ⟨j, rfl, j0⟩ := isCnt_int c2
        simp [ens, ET.cl, ET.n3]
        refine wCond.p (fun c3 => ?_) fun c3 => ?_
        · have : isTo (m.row s) (.int j) = false := by simp [isTo]; omega
          have e : beginO m d (.int j) = (.error .move, m) := by simp [beginO, c0, c, this]
          rw [e] at hk
          exact hk lh A0 (Kp.refl _ _)
        · have : isTo (m.row s) (.int j) = true := by simp [isTo]; omega
          simp [A0.a, MT.cl, MT.n1, A0.tbl, lv, qv]
          rw [es_range]
          refine lcL_map (l := List.range p.es.length) (emb := fun i => rf (p.es.getD i 0)) (fun i => .bool ((m.row i).live && decide ((m.row i).start < (m.row s).start) && decide (j < (m.row i).start + (m.row i).size))) (by simp [A0.tbl, es_range]) (by simp; omega) (fun i hi F hF => ?_) ?_
          · have hi' : i < p.es.length := List.mem_range.mp hi
            rw [getD_es hi']
            have en := A0.en i hi'
            simp [en, ET.cl, ET.n1]
            cases lv : (m.row i).live with
            | true =>
              simp [lv] at hF
              simp [en, ens, ET.cl, ET.n3]
              refine wCond.p (fun q => ?_) fun q => ?_
              · simp [q] at hF
                exact ⟨_, _, rfl, en, by simpa using hF⟩
              · simp [q] at hF
                exact hF
            | false =>
              simp [lv] at hF
              simpa using hF
          · refine ⟨_, boolL_mapF _ _, ?_⟩
            rw [hl, any_rows m fun r => r.live && decide (r.start < (m.row s).start) && decide (j < r.start + r.size)]
            have k2 : ∀ b : Bool, m.rows.any (fun r => r.live && decide (r.start < (m.row s).start) && decide (j < r.start + r.size)) = b → beginO m d (.int j) = if b then (.error .move, m) else (.ok .none, m.put s { m.row s with to := some j, done := 0 }) := fun b hb => by
              simp only [beginO, c0, c, this, numI]
              simp only [gt_iff_lt, hb]
              simp
            refine wCond_b (fun hb => ?_) fun hb => ?_
            · rw [k2 _ hb] at hk
              exact hk lh A0 (Kp.refl _ _)
            · rw [k2 _ hb] at hk
              have := hk _ (A0.putRow s hs' _) (Kp.put (Mp.mem_es hs'))
              simp [ens, ET.cl, ET.n5, ET.n6]
              simpa [Row.f, oI] using this
end
end K15
set_option Elab.async false
set_option linter.all false
set_option maxRecDepth 100000
set_option maxHeartbeats 4000000
set_option synthInstance.maxHeartbeats 1000000
set_option synthInstance.maxSize 1000000
namespace K15
open PySem PySem.Spec PyProof.Rows L2 Evl Pd Wl Mm
section
variable {P : Program} {w : World} {K : PySem.W.Frag} {mg : Str → Option Value} {base : Heap} {C E : Addr} {x : XA}
theorem cal_Entry (S : SrcC K mg "Entry" E "Entry.__init__" st_Entry_init ["self"]) (T : Txt K mg) (ET : ETxt K E) : CalC P w K mg base CX0 1 "Entry" E ["self"] (SpW K (D_Einit E)) := by
  have sc := sc_Entry_init
  refine S.cal (k := 0) sc (SpW.len fun ds h P z => by obtain ⟨_, rfl, _⟩ := z; rfl) (fun f cdv A outer s H vs Q E0 hr h => ⟨_, (pss_cons (k_psfld (K := K) rfl (pv 0) pe_int rfl)
  (pss_cons (k_psfld (K := K) rfl (pv 0) pe_bl rfl)
  (pss_cons (k_psfld (K := K) rfl (pv 0) pe_int rfl)
  (pss_cons (k_psfld (K := K) rfl (pv 0) pe_int rfl)
  (pss_cons (k_psfld (K := K) rfl (pv 0) pe_int rfl)
  (pss_cons (k_psfld (K := K) rfl (pv 0) pe_non rfl)
  (pss_cons (k_psfld (K := K) rfl (pv 0) pe_int rfl)
  (pss_cons (k_psfld (K := K) rfl (pv 0) pe_int rfl)
  (pss_one (k_psfld (K := K) rfl (pv 0) pe_bl rfl)))))))))), h.enter fun ds lh P hD => ?_⟩)
  obtain ⟨y, rfl, hy, hk⟩ := hD
  simp [hy, ET.cl, ET.n0, ET.n1, ET.n2, ET.n3, ET.n4, ET.n5, ET.n6, ET.n7, ET.n8]
  simpa [Row.f, oI, default] using hk
end
end K15
set_option Elab.async false
set_option linter.all false
set_option maxRecDepth 100000
set_option maxHeartbeats 4000000
set_option synthInstance.maxHeartbeats 1000000
set_option synthInstance.maxSize 1000000
namespace K15
open PySem PySem.Spec PyProof.Rows L2 Evl Pd Wl Mm
theorem numbered_range (l : List PyData) : Pd.numbered 0 l = (List.range l.length).map fun (i : Nat) => PyData.tuple [.int (i : Nat), l.getD i .none] := by
  refine List.ext_getElem? fun i => ?_
  rcases Nat.lt_or_ge i l.length with c | c
  · rw [Pd.numbered_get l 0 i l[i] (by simp [c])]
    simp [c, List.getD]
  · rw [List.getElem?_eq_none (by rw [Pd.numbered_length]; exact c), List.getElem?_eq_none (by simpa using c)]
theorem dead_head (m : Mem) {s : Int} (h : fits m s = true) : ∃ i, dead m = some i ∧ i < m.rows.length ∧ (m.row i).live = false ∧ ((List.range m.rows.length).filter fun j => !(m.row j).live)[0]? = some i := by
  have h2 : ∀ j (hj : j < m.rows.length), m.rows[j] = m.row j := fun j hj => by simp [Mem.row, List.getD, hj]
  cases c : dead m with
  | none =>
    exfalso
    unfold dead at c
    rw [List.findIdx?_eq_none_iff] at c
    have : liveN m = m.rows.length := by
      unfold liveN
      rw [List.filter_eq_self.mpr]
      intro r hr
      simpa using c r hr
    simp [fits, this] at h
  | some i =>
    unfold dead at c
    rw [List.findIdx?_eq_some_iff_getElem] at c
    obtain ⟨hi, q, no⟩ := c
    rw [h2] at q
    refine ⟨i, rfl, hi, by simpa using q, ?_⟩
    rw [← List.head?_eq_getElem?, List.head?_filter, List.find?_range_eq_some]
    refine ⟨q, List.mem_range.mpr hi, fun j hj => ?_⟩
    have := no j hj
    rw [h2] at this
    simpa using this
section
variable {P : Program} {w : World} {K : PySem.W.Frag} {mg : Str → Option Value} {base : Heap} {C E : Addr} {x : XA}
def D_reserve (C E : Addr) (x : XA) (ds : List PyData) (h : Lh) (P : Wv) (X : Addr → List (Str × PyData) → Lh → Prop) : Prop := ∃ m p s, ds = [rf p.a, .int s] ∧ MemK C E m p h ∧ Snd m ∧ Go C E x p h (reserveO m s) P X
theorem cal_reserve (S : SrcM K C "reserve" "Memory.reserve" st_Memory_reserve ["self", "size"]) (T : Txt K mg) (MT : MTxt K C) (ET : ETxt K E) (XX_NoRoom : XCls K mg "NoRoom" x.room) (M_fits : CalM P w K mg base CX0 2 C "fits" ["self", "size"] (SpW K (D_fits C E))) : CalM P w K mg base (L2.CX P w) 3 C "reserve" ["self", "size"] (SpX K (D_reserve C E x)) := by
  have sc := sc_Memory_reserve
  refine S.calX (k := 2) sc (SpX.len fun ds h P X z => by obtain ⟨_, _, _, rfl, _⟩ := z; rfl) (fun f cdv A outer s H vs Q E' hr h => ⟨_, (pss_cons (ps_if (pt_not (pt_val (pe_calM M_fits MT.cl (hr.mono (by first | decide | omega)) pass0 (pv 0) (pa_cons (pv 1) pa_nil)))) (pss_one (k_raise rfl (takes_of rfl rfl rfl rfl) (k_mkx XX_NoRoom rfl))) pss_nil)
  (pss_cons (ps_set (i := 2) sc.nd rfl (by first | exact Or.inl rfl | exact Or.inr rfl) (pe_ix (k_ix_list (K := K) rfl) (pe_lc (own := [("index", 4), ("entry", 3)]) rfl sc.nd (k_pi_enum (K := K) rfl (by rfl) T.n_enumerate (pa_cons (k_fld (K := K) rfl (pv 0) rfl) pa_nil)) (blkOk_by (by first | decide +kernel | kernel_rfl)) (fun _ _ _ _ _ => (k_pg_tup (K := K) (n := 2) rfl rfl (pgs_cons (pg_name (i := 4) sc.nd rfl (by first | exact Or.inl rfl | exact Or.inr rfl)) (pgs_cons (pg_name (i := 3) sc.nd rfl (by first | exact Or.inl rfl | exact Or.inr rfl)) pgs_nil)))) (fun _ _ _ _ _ => (pts_one (pt_not (pt_val (k_fld (K := K) rfl (pv 3) rfl))))) (fun _ _ _ _ _ => (pv 4))) pe_int (fun _ _ => rfl)))
  (pss_cons (ps_set (i := 3) sc.nd rfl (by first | exact Or.inl rfl | exact Or.inr rfl) (pe_ix (k_ix_list (K := K) rfl) (k_fld (K := K) rfl (pv 0) rfl) (pv 2) (fun _ _ => rfl)))
  (pss_cons (k_psfld (K := K) rfl (pv 3) pe_bl rfl)
  (pss_cons (k_psfld (K := K) rfl (pv 3) (pv 1) rfl)
  (pss_cons (k_psfld (K := K) rfl (pv 3) (k_fld (K := K) rfl (pv 0) rfl) rfl)
  (pss_cons (k_psfld (K := K) rfl (pv 3) pe_int rfl)
  (pss_cons (k_psfld (K := K) rfl (pv 3) pe_non rfl)
  (pss_cons (k_psfld (K := K) rfl (pv 3) pe_int rfl)
  (pss_cons (k_psfld (K := K) rfl (pv 3) pe_int rfl)
  (pss_cons (k_psfld (K := K) rfl (pv 3) pe_bl rfl)
  (pss_cons (k_psfldaug (K := K) rfl (pv 0) (pv 1) in_add)
  (pss_one (ps_ret (pe_tup (pa_cons (pv 2) (pa_cons (k_fld (K := K) rfl (pv 3) rfl) pa_nil))))))))))))))))), h.enter fun ds lh P X hD => ?_⟩)
  obtain ⟨m, p, s, rfl, A0, Sn, hk⟩ := hD
  have hl := A0.len
  have rc := Sn.rc
  refine wSeq_step fun B hB => ?_
  simp [A0.a]
  refine ⟨m, p, s, rfl, A0, Sn, ?_⟩
  cases c : fits m s with
  | false =>
    have e : reserveO m s = (.error .room, m) := by simp [reserveO, c]
    rw [e] at hk
    simp
    exact hk lh A0 (Kp.refl _ _)
  | true =>
    simp
    subst hB
    refine wSeq_step fun B hB => ?_
    simp [A0.a, MT.cl, MT.n1, A0.tbl, lv, qv]
    obtain ⟨i, hd, hi, ldead, hh⟩ := dead_head m c
    have hi' : i < p.es.length := by omega
    have en := A0.en i hi'
    rw [numbered_range, List.length_map]
    have em : ∀ n, n ≤ p.es.length → ((List.range n).map fun (j : Nat) => PyData.tuple [.int (j : Nat), (p.es.map fun x => rf x).getD j .none]) = (List.range n).map fun (j : Nat) => PyData.tuple [.int (j : Nat), rf (p.es.getD j 0)] := fun n hn => List.map_congr_left fun j hj => by
      have : j < p.es.length := by have := List.mem_range.mp hj; omega
      simp [List.getD, this]
    rw [em _ (Nat.le_refl _)]
    refine lcL_filter (l := List.range p.es.length) (emb := fun (j : Nat) => PyData.tuple [.int (j : Nat), rf (p.es.getD j 0)]) (fun j => !(m.row j).live) (fun j => .int (j : Nat)) (by simp [A0.tbl]) (by simp; omega) (fun j hj F F0 h1 h2 => ?_) ?_
    · have hj' : j < p.es.length := List.mem_range.mp hj
      rw [getD_es hj']
      simp [A0.en j hj', ET.cl, ET.n1]
      exact wCond_b (fun q => h2 (by simp [q])) fun q => h1 (by simp [q])
    · rw [hl]
      have : atI (((List.range m.rows.length).filter fun j => !(m.row j).live).map fun (j : Nat) => PyData.int (j : Nat)) 0 = some (.int (i : Nat)) := atI_nat (j := 0) (by rw [List.getElem?_map, hh]; rfl)
      refine ⟨_, this, ?_⟩
      subst hB
      have e : reserveO m s = (.ok (.tuple [.int (i : Nat), .int (m.row i).stamp]), { (m.put i ⟨(m.row i).stamp, true, s, m.e, 0, none, 0, 0, false⟩) with e := m.e + s }) := by simp [reserveO, c, hd]
      rw [e] at hk
      have ne := A0.ne_es hi'
      have := hk _ ((A0.putRow i hi' ⟨(m.row i).stamp, true, s, m.e, 0, none, 0, 0, false⟩).putE (m.e + s)) ((Kp.put (Mp.mem_es hi')).put2 (Mp.mem_a p))
      simp [A0.a, A0.tbl, lv, MT.cl, MT.n1, MT.n2, atI_es hi', en, ET.cl, ET.n0, ET.n1, ET.n2, ET.n3, ET.n4, ET.n5, ET.n6, ET.n7, ET.n8, up_ne ne.1, up_ne ne.1.symm]
      simpa [Row.f, oI, Mem.put] using this
end
end K15
set_option Elab.async false
set_option linter.all false
set_option maxRecDepth 100000
set_option maxHeartbeats 4000000
set_option synthInstance.maxHeartbeats 1000000
set_option synthInstance.maxSize 1000000
namespace K15
open PySem PySem.Spec PyProof.Rows L2 Evl Pd Wl Mm
def mem0 (c s : Nat) : Mem := ⟨List.replicate c .none, List.replicate s default, 0⟩
section
variable {P : Program} {w : World} {K : PySem.W.Frag} {mg : Str → Option Value} {base : Heap} {C E : Addr} {x : XA}
def D_Minit (C E : Addr) (ds : List PyData) (h : Lh) (P : Wv) : Prop := ∃ (a : Addr) (c s : Nat), ds = [rf a, .int c, .int s] ∧ h a = some (.ins C []) ∧ 1 ≤ c ∧ c ≤ 10000 ∧ 1 ≤ s ∧ s ≤ 1000 ∧ ∀ p h', p.a = a → MemK C E (mem0 c s) p h' → Gp [a] h p.F h' → P .none h'
theorem cal_Memory (S : SrcC K mg "Memory" C "Memory.__init__" st_Memory_init ["self", "cells", "slots"]) (T : Txt K mg) (MT : MTxt K C) (ET : ETxt K E) (C_is_integer : Cal P w K mg base CX0 1 "is_integer" ["value"] (SpW K D_is_integer)) (C_Entry : CalC P w K mg base CX0 1 "Entry" E ["self"] (SpW K (D_Einit E))) : CalC P w K mg base CX0 3 "Memory" C ["self", "cells", "slots"] (SpW K (D_Minit C E)) := by
  have sc := sc_Memory_init
  refine S.cal (k := 2) sc (SpW.len fun ds h P z => by obtain ⟨_, _, _, rfl, _⟩ := z; rfl) (fun f cdv A outer s H vs Q E0 hr h => ⟨_, (pss_cons (ps_if (PW.pt (pw_or (pt_not (pt_val (pe_cal C_is_integer (hr.mono (by first | decide | omega)) rfl pass0 (pa_cons (pv 1) pa_nil)))) (pw_or (pt_cmpR op_lt (pv 1) pe_int (nomark _)) (pw_or1 (pt_cmpR op_gt (pv 1) (pe_gl rfl T.c_MOST_CELLS) (nomark _)))))) (pss_one Wl.ps_never) pss_nil)
  (pss_cons (ps_if (PW.pt (pw_or (pt_not (pt_val (pe_cal C_is_integer (hr.mono (by first | decide | omega)) rfl pass0 (pa_cons (pv 2) pa_nil)))) (pw_or (pt_cmpR op_lt (pv 2) pe_int (nomark _)) (pw_or1 (pt_cmpR op_gt (pv 2) (pe_gl rfl T.c_MOST_SLOTS) (nomark _)))))) (pss_one Wl.ps_never) pss_nil)
  (pss_cons (k_psfld (K := K) rfl (pv 0) (pe_ref (pe_op op_rep (pe_lst (pa_cons pe_non pa_nil)) (pv 1))) rfl)
  (pss_cons (k_psfld (K := K) rfl (pv 0) (pe_ref (pe_lc (own := [("_", 3)]) rfl sc.nd (pi_range1 (by rfl) T.n_range (pa_cons (pv 2) pa_nil)) (blkOk_by (by first | decide +kernel | kernel_rfl)) (fun _ _ _ _ _ => (pg_name (i := 3) sc.nd rfl (by first | exact Or.inl rfl | exact Or.inr rfl))) (fun _ _ _ _ _ => pts_nil) (fun _ _ _ _ _ => (pe_mkC0 C_Entry (hr.mono (by first | decide | omega)) rfl pass0)))) rfl)
  (pss_one (k_psfld (K := K) rfl (pv 0) pe_int rfl)))))), h.enter fun ds lh P hD => ?_⟩)
  obtain ⟨a, c, s, rfl, ha, c1, c2, s1, s2, hk⟩ := hD
  have nI : ∀ i : Int, Nr (.int i) := fun i => trivial
  have z1 : ¬ ((c : Int) < 1) := by omega
  have z2 : ¬ ((c : Int) > 10000) := by omega
  have z3 : ¬ ((s : Int) < 1) := by omega
  have z4 : ¬ ((s : Int) > 1000) := by omega
  simp [D_is_integer, nI, isInt, z1, z2, z3, z4]
  refine ⟨by omega, by omega, fun q hq => ?_⟩
  have aq : a ≠ q := fun z => by subst z; rw [ha] at hq; cases hq
  have t1 := ((Tk.one ha).new (u := .lst (List.replicate c .none)) hq).put 0 rfl (u := .ins C [("_arena", rf q)])
  rw [up_ne aq, ha]
  simp [MT.cl, MT.n0]
  refine ⟨by omega, ?_⟩
  refine lcL_run (fun ds acc h => ∃ es : List Addr, acc = es.map (fun x => rf x) ∧ ds.length + es.length = s ∧ Tk [a] lh ([ceR a (.ins C [("_arena", rf q)]), ceR q (.lst (List.replicate c .none))] ++ es.map fun x => ceR x (.ins E (Mm.Row.f default))) h) ?_ ?_ ⟨[], rfl, by simp [rgD], by simpa using t1⟩
  · rintro d ds acc h ⟨es, rfl, hlen, tk⟩
    simp at hlen
    refine ⟨trivial, by simp; omega, fun F hF => ?_⟩
    simp
    intro y hy
    refine ⟨y, rfl, up_same, rfl, ?_⟩
    have t2 := (tk.new (u := .ins E []) hy)
    have t3 := t2.put (a := y) (o := .ins E []) (es.length + 2) (u := .ins E (Mm.Row.f default)) (by rw [List.getElem?_append_right (by simp)]; simp)
    have := hF (es.map (fun x => rf x) ++ [rf y]) _ ⟨es ++ [y], by simp, by simp; omega, by
      have e : (([ceR a (.ins C [("_arena", rf q)]), ceR q (.lst (List.replicate c .none))] ++ es.map fun x => ceR x (.ins E (Mm.Row.f default))) ++ [ceR y (.ins E [])]).set (es.length + 2) (ceR y (.ins E (Mm.Row.f default))) = [ceR a (.ins C [("_arena", rf q)]), ceR q (.lst (List.replicate c .none))] ++ (es ++ [y]).map fun x => ceR x (.ins E (Mm.Row.f default)) := by
        rw [List.set_append_right _ _ (by simp)]
        simp
      rw [e] at t3
      exact t3⟩
    simpa using this
  · rintro acc h ⟨es, rfl, hlen, tk⟩
    refine ⟨trivial, fun t _ ht => ?_⟩
    have he : es.length = s := by simpa using hlen
    have ha2 : h a = some (.ins C [("_arena", rf q)]) := tk.at_.get (i := 0) rfl
    have t4 := (tk.new (u := .lst (es.map fun x => rf x)) ht).put 0 rfl (u := .ins C [("_arena", rf q), ("_table", rf t), ("_end", .int 0)])
    have at_ : a ≠ t := fun z => by subst z; rw [ha2] at ht; cases ht
    rw [up_ne at_, ha2]
    simp [MT.cl, MT.n1, MT.n2]
    have ec : (([ceR a (.ins C [("_arena", rf q)]), ceR q (.lst (List.replicate c .none))] ++ es.map fun x => ceR x (.ins E (Mm.Row.f default))) ++ [ceR t (.lst (es.map fun x => rf x))]).set 0 (ceR a (.ins C [("_arena", rf q), ("_table", rf t), ("_end", .int 0)])) |>.Perm (cells C E (mem0 c s) ⟨a, q, t, es⟩) := by
      have e2 : ((List.range es.length).map fun i => ceR (es.getD i 0) (.ins E ((mem0 c s).row i).f)) = es.map fun x => ceR x (.ins E (Mm.Row.f default)) := by
        conv => rhs; rw [← Mm.range_getD es, List.map_map]
        refine List.map_congr_left fun i hi => ?_
        have : i < s := by have := List.mem_range.mp hi; omega
        simp [mem0, Mem.row, List.getD, this]
      unfold cells
      rw [e2]
      simp only [List.cons_append, List.nil_append, List.set_cons_zero]
      refine List.Perm.cons _ (List.Perm.cons _ ?_)
      exact List.perm_append_singleton _ _
    have t5 := t4.perm ec
    have := hk ⟨a, q, t, es⟩ _ rfl ⟨t5.at_, by simp [mem0, he]⟩ (by have := t5.gp; rwa [Fs_cells] at this)
    simpa using this
end
end K15
set_option Elab.async false
set_option linter.all false
set_option maxRecDepth 100000
set_option maxHeartbeats 1000000
namespace Mm
open PySem PySem.Spec PyProof.Rows L2 Evl Pd Wl
/-! L1: the law's own memory: a dict of the arena, the rows, the end. No program. -/
abbrev mL (p : Mp) (e : Int) : LO := .dK [(.inr "arena", rf p.ar), (.inr "rows", rf p.tb), (.inr "end", .int e)]
def cellsL (m : Mem) (p : Mp) : List Res := ceR p.a (mL p m.e) :: ceR p.ar (.lst m.ar) :: ceR p.tb (.lst (p.es.map fun x => rf x)) :: (List.range p.es.length).map fun i => ceR (p.es.getD i 0) (.lst (m.row i).ds)
structure LmK (m : Mem) (p : Mp) (h : Lh) : Prop where
  at_ : At (cellsL m p) h
  len : p.es.length = m.rows.length
section
variable {m : Mem} {p : Mp} {h h' : Lh}
theorem Fs_cellsL : Fs (cellsL m p) = p.F := by
  unfold cellsL Mp.F
  rw [Fs_cons, Fs_cons, Fs_cons]
  have : Fs ((List.range p.es.length).map fun i => ceR (p.es.getD i 0) (.lst (m.row i).ds)) = p.es := by
    have e : ∀ l : List Nat, Fs (l.map fun i => ceR (p.es.getD i 0) (.lst (m.row i).ds)) = l.map fun i => p.es.getD i 0 := by
      intro l
      induction l with
      | nil => rfl
      | cons a l ih => rw [List.map_cons, Fs_cons, ih]; rfl
    rw [e, range_getD]
  rw [this]
  rfl
theorem LmK.nd (A : LmK m p h) : p.F.Nodup := by have := A.at_.nd; rwa [Fs_cellsL] at this
theorem LmK.a (A : LmK m p h) : h p.a = some (mL p m.e) := A.at_.get (i := 0) rfl
theorem LmK.arr (A : LmK m p h) : h p.ar = some (.lst m.ar) := A.at_.get (i := 1) rfl
theorem LmK.tbl (A : LmK m p h) : h p.tb = some (.lst (p.es.map fun x => rf x)) := A.at_.get (i := 2) rfl
theorem cellL_at {i : Nat} (hi : i < p.es.length) : (cellsL m p)[i + 3]? = some (ceR p.es[i] (.lst (m.row i).ds)) := by
  unfold cellsL
  simp [hi, List.getD]
theorem LmK.en (A : LmK m p h) (i : Nat) (hi : i < p.es.length) : h p.es[i] = some (.lst (m.row i).ds) := A.at_.get (cellL_at hi)
theorem LmK.keep (A : LmK m p h) (f : ∀ x ∈ p.F, ∀ o, h x = some o → h' x = some o) : LmK m p h' := ⟨A.at_.keep (by rw [Fs_cellsL]; exact f), A.len⟩
theorem LmK.ex (A : LmK m p h) (f : Lx h h') : LmK m p h' := A.keep fun x _ => f x
theorem LmK.has (A : LmK m p h) : ∀ x ∈ p.F, ∃ o, h x = some o := by have := A.at_.has; rwa [Fs_cellsL] at this
theorem LmK.putRow (A : LmK m p h) (i : Nat) (hi : i < p.es.length) (r : Row) : LmK (m.put i r) p (up h p.es[i] (.lst r.ds)) := by
  refine ⟨?_, by rw [A.len]; simp [Mem.put]⟩
  have := At.putc (u := .lst r.ds) A.at_ (cellL_at hi)
  have e : (cellsL m p).set (i + 3) (ceR p.es[i] (.lst r.ds)) = cellsL (m.put i r) p := by
    refine List.ext_getElem? fun j => ?_
    by_cases c : i + 3 = j
    · subst c
      rw [List.getElem?_set_self (by simp [cellsL]; exact hi), cellL_at hi, row_put_eq (by rw [← A.len]; exact hi)]
    · rw [List.getElem?_set_ne c]
      match j with
      | 0 => rfl
      | 1 => rfl
      | 2 => rfl
      | k + 3 =>
        rcases Nat.lt_or_ge k p.es.length with hk | hk
        · rw [cellL_at hk, cellL_at hk, row_put_ne (by omega)]
        · simp [cellsL, hk]
  rw [e] at this
  exact this
theorem LmK.putAr (A : LmK m p h) (xs : List PyData) : LmK { m with ar := xs } p (up h p.ar (.lst xs)) := ⟨At.putc (i := 1) (u := .lst xs) A.at_ rfl, A.len⟩
theorem LmK.putE (A : LmK m p h) (e : Int) : LmK { m with e := e } p (up h p.a (mL p e)) := ⟨At.putc (i := 0) (u := mL p e) A.at_ rfl, A.len⟩
theorem LmK.ne_es (A : LmK m p h) {i : Nat} (hi : i < p.es.length) : p.a ≠ p.es[i] ∧ p.ar ≠ p.es[i] ∧ p.tb ≠ p.es[i] := by
  have := A.nd
  unfold Mp.F at this
  simp only [List.nodup_cons, List.mem_cons, not_or] at this
  have hm : p.es[i] ∈ p.es := List.getElem_mem hi
  refine ⟨fun z => ?_, fun z => ?_, fun z => ?_⟩
  · rw [← z] at hm; exact this.1.2.2 hm
  · rw [← z] at hm; exact this.2.1.2 hm
  · rw [← z] at hm; exact this.2.2.1 hm
theorem LmK.ne_a (A : LmK m p h) : p.a ≠ p.ar ∧ p.a ≠ p.tb ∧ p.ar ≠ p.tb := by
  have := A.nd
  unfold Mp.F at this
  simp only [List.nodup_cons, List.mem_cons, not_or] at this
  exact ⟨this.1.1, this.1.2.1, this.2.1.1⟩
theorem LmK.qt (A : LmK m p h) : qv h (rf p.tb) = some (p.es.map fun x => rf x) := by simp [qv, lv, A.tbl]
theorem LmK.qa (A : LmK m p h) : qv h (rf p.ar) = some m.ar := by simp [qv, lv, A.arr]
theorem LmK.lt (A : LmK m p h) : lv h (rf p.tb) = some (p.es.map fun x => rf x) := by simp [lv, A.tbl]
theorem LmK.la (A : LmK m p h) : lv h (rf p.ar) = some m.ar := by simp [lv, A.arr]
end
@[simp] theorem ds0 (r : Row) : atI r.ds 0 = some (.int r.stamp) := by rfl
@[simp] theorem ds1 (r : Row) : atI r.ds 1 = some (.bool r.live) := by rfl
@[simp] theorem ds2 (r : Row) : atI r.ds 2 = some (.int r.size) := by rfl
@[simp] theorem ds3 (r : Row) : atI r.ds 3 = some (.int r.start) := by rfl
@[simp] theorem ds4 (r : Row) : atI r.ds 4 = some (.int r.filled) := by rfl
@[simp] theorem ds5 (r : Row) : atI r.ds 5 = some (oI r.to) := by rfl
@[simp] theorem ds6 (r : Row) : atI r.ds 6 = some (.int r.done) := by rfl
@[simp] theorem ds7 (r : Row) : atI r.ds 7 = some (.int r.mark) := by rfl
@[simp] theorem ds8 (r : Row) : atI r.ds 8 = some (.bool r.black) := by rfl
theorem lv_ds {h : Lh} {x : Addr} {r : Row} (e : h x = some (.lst r.ds)) : Wl.lv h (rf x) = some r.ds := by simp [Wl.lv, e]
@[simp] theorem ds_len (r : Row) : r.ds.length = 9 := rfl
@[simp] theorem ix9_0 : ixN 9 0 = some 0 := by rfl
@[simp] theorem ix9_1 : ixN 9 1 = some 1 := by rfl
@[simp] theorem ix9_2 : ixN 9 2 = some 2 := by rfl
@[simp] theorem ix9_3 : ixN 9 3 = some 3 := by rfl
@[simp] theorem ix9_4 : ixN 9 4 = some 4 := by rfl
@[simp] theorem ix9_5 : ixN 9 5 = some 5 := by rfl
@[simp] theorem ix9_6 : ixN 9 6 = some 6 := by rfl
@[simp] theorem ix9_7 : ixN 9 7 = some 7 := by rfl
@[simp] theorem ix9_8 : ixN 9 8 = some 8 := by rfl
@[simp] theorem dset0 (r : Row) (z : Int) : r.ds.set 0 (.int z) = ({ r with stamp := z } : Row).ds := by rfl
@[simp] theorem dset2 (r : Row) (z : Int) : r.ds.set 2 (.int z) = ({ r with size := z } : Row).ds := by rfl
@[simp] theorem dset3 (r : Row) (z : Int) : r.ds.set 3 (.int z) = ({ r with start := z } : Row).ds := by rfl
@[simp] theorem dset4 (r : Row) (z : Int) : r.ds.set 4 (.int z) = ({ r with filled := z } : Row).ds := by rfl
@[simp] theorem dset6 (r : Row) (z : Int) : r.ds.set 6 (.int z) = ({ r with done := z } : Row).ds := by rfl
@[simp] theorem dset1 (r : Row) (b : Bool) : r.ds.set 1 (.bool b) = ({ r with live := b } : Row).ds := by rfl
@[simp] theorem dset5n (r : Row) : r.ds.set 5 .none = ({ r with to := none } : Row).ds := by rfl
@[simp] theorem dset5 (r : Row) (z : Int) : r.ds.set 5 (.int z) = ({ r with to := some z } : Row).ds := by rfl
@[simp] theorem at9_5 (x0 x1 x2 x3 x4 x5 x6 x7 x8 : PyData) : atI [x0, x1, x2, x3, x4, x5, x6, x7, x8] 5 = some x5 := by rfl
@[simp] theorem at9_6 (x0 x1 x2 x3 x4 x5 x6 x7 x8 : PyData) : atI [x0, x1, x2, x3, x4, x5, x6, x7, x8] 6 = some x6 := by rfl
@[simp] theorem at9_7 (x0 x1 x2 x3 x4 x5 x6 x7 x8 : PyData) : atI [x0, x1, x2, x3, x4, x5, x6, x7, x8] 7 = some x7 := by rfl
@[simp] theorem at9_8 (x0 x1 x2 x3 x4 x5 x6 x7 x8 : PyData) : atI [x0, x1, x2, x3, x4, x5, x6, x7, x8] 8 = some x8 := by rfl
end Mm
set_option Elab.async false
set_option linter.all false
set_option maxRecDepth 100000
set_option maxHeartbeats 4000000
set_option synthInstance.maxHeartbeats 1000000
set_option synthInstance.maxSize 1000000
namespace K15
open PySem PySem.Spec PyProof.Rows L2 Evl Pd Wl Mm
theorem lvK {m : Mem} {p : Mp} {h : Lh} (A : LmK m p h) {i : Nat} (hi : i < p.es.length) : Wl.lv h (rf p.es[i]) = some (m.row i).ds := by simp [Wl.lv, A.en i hi]
section
variable {P : Program} {w : World} {K : PySem.W.Frag} {mg : Str → Option Value} {base : Heap}
def D_lint (ds : List PyData) (h : Lh) (P : Wv) : Prop := ∃ x, ds = [x] ∧ Nr x ∧ P (.bool (isInt x)) h
theorem cal_lint (S : Src K mg "_law_is_integer" st__law_is_integer ["value"]) (T : Txt K mg) : Cal P w K mg base CX0 1 "_law_is_integer" ["value"] (SpW K D_lint) := by
  have sc := sc__law_is_integer
  refine S.cal (k := 0) sc (SpW.len fun ds h P z => by obtain ⟨_, rfl, _⟩ := z; rfl) (fun f cdv A outer s H vs Q E hr h => ⟨_, (pss_one (ps_ret (pe_and (pe_callB (k_isi (K := K) rfl) (by rfl) T.n_isinstance (by decide +kernel) (pa_cons (pv 0) (pa_cons (pe_bltn (v := .ty "int") (by rfl) T.n_int (by decide +kernel) rfl) pa_nil))) (pe_one (pe_not (pe_callB (k_isi (K := K) rfl) (by rfl) T.n_isinstance (by decide +kernel) (pa_cons (pv 0) (pa_cons (pe_bltn (v := .ty "bool") (by rfl) T.n_bool (by decide +kernel) rfl) pa_nil)))))))), h.enter fun ds lh P hD => ?_⟩)
  obtain ⟨x, rfl, rx, hk⟩ := hD
  cases x with
  | dict k => exact rx.elim
  | _ => simpa [isInt] using hk
def D_lhandle (ds : List PyData) (h : Lh) (P : Wv) : Prop := ∃ x, ds = [x] ∧ Nr2 x ∧ P (.bool (isHdl x)) h
theorem cal_lhandle (S : Src K mg "_law_is_handle" st__law_is_handle ["value"]) (T : Txt K mg) (C__law_is_integer : Cal P w K mg base CX0 1 "_law_is_integer" ["value"] (SpW K D_lint)) : Cal P w K mg base CX0 2 "_law_is_handle" ["value"] (SpW K D_lhandle) := by
  have sc := sc__law_is_handle
  refine S.cal (k := 1) sc (SpW.len fun ds h P z => by obtain ⟨_, rfl, _⟩ := z; rfl) (fun f cdv A outer s H vs Q E hr h => ⟨_, (pss_cons (ps_if (PW.pt (pw_or (pt_not (pt_val (pe_callB (k_isi (K := K) rfl) (by rfl) T.n_isinstance (by decide +kernel) (pa_cons (pv 0) (pa_cons (pe_bltn (v := .ty "tuple") (by rfl) T.n_tuple (by decide +kernel) rfl) pa_nil))))) (pw_or1 (pt_cmpR op_ne (pe_callB (k_len_seq (K := K) rfl) (by rfl) T.n_len PySem.boot_len (pa_cons (pv 0) pa_nil)) pe_int (nomark _))))) (pss_one (ps_ret pe_bl)) pss_nil)
  (pss_one (ps_ret (pe_callB (k_all (K := K) rfl rfl) (by rfl) T.n_all (by decide +kernel) (pa_cons (pe_lc (own := [("item", 1)]) rfl sc.nd (k_pi_tup (K := K) rfl (pv 0)) (blkOk_by (by first | decide +kernel | kernel_rfl)) (fun _ _ _ _ _ => (pg_name (i := 1) sc.nd rfl (by first | exact Or.inl rfl | exact Or.inr rfl))) (fun _ _ _ _ _ => pts_nil) (fun _ _ _ _ _ => (pe_and (pe_cal C__law_is_integer (hr.mono (by first | decide | omega)) rfl pass0 (pa_cons (pv 1) pa_nil)) (pe_one (pe_cmpR op_ge (pv 1) pe_int (nomark _)))))) pa_nil))))), h.enter fun ds lh P hD => ?_⟩)
  obtain ⟨x, rfl, rx, hk⟩ := hD
  cases x with
  | dict k => exact rx.elim
  | tuple xs =>
    match xs with
    | [] => simpa [isHdl] using hk
    | [a] => simpa [isHdl] using hk
    | [a, b] =>
      obtain ⟨na, nb⟩ := rx
      simp only [isHdl] at hk
      simp
      refine ⟨a, rfl, na, ?_⟩
      cases a with
      | int i =>
        simp [isInt]
        refine ⟨b, rfl, nb, ?_⟩
        cases b with
        | int j => simp [isInt]; simpa [isCnt] using hk
        | _ => simp [isInt]; simpa [isCnt] using hk
      | _ =>
        simp [isInt]
        refine ⟨b, rfl, nb, ?_⟩
        cases b with
        | int j => simp [isInt]; simpa [isCnt] using hk
        | _ => simp [isInt]; simpa [isCnt] using hk
    | a :: b :: c :: l =>
      have : ¬ ((l.length : Int) + 1 + 1 + 1 = 2) := by omega
      simpa [isHdl, this] using hk
  | _ => simpa [isHdl] using hk
def D_lvalue (ds : List PyData) (h : Lh) (P : Wv) : Prop := ∃ x, ds = [x] ∧ Nr2 x ∧ P (.bool (isVal x)) h
theorem cal_lvalue (S : Src K mg "_law_is_value" st__law_is_value ["value"]) (T : Txt K mg) (C__law_is_integer : Cal P w K mg base CX0 1 "_law_is_integer" ["value"] (SpW K D_lint)) (C__law_is_handle : Cal P w K mg base CX0 2 "_law_is_handle" ["value"] (SpW K D_lhandle)) : Cal P w K mg base CX0 3 "_law_is_value" ["value"] (SpW K D_lvalue) := by
  have sc := sc__law_is_value
  refine S.cal (k := 2) sc (SpW.len fun ds h P z => by obtain ⟨_, rfl, _⟩ := z; rfl) (fun f cdv A outer s H vs Q E hr h => ⟨_, (pss_one (ps_ret (pe_or (pe_cmpR op_isN (pv 0) pe_non (nomark _)) (pe_or (pe_cal C__law_is_integer (hr.mono (by first | decide | omega)) rfl pass0 (pa_cons (pv 0) pa_nil)) (pe_one (pe_cal C__law_is_handle (hr.mono (by first | decide | omega)) rfl pass0 (pa_cons (pv 0) pa_nil))))))), h.enter fun ds lh P hD => ?_⟩)
  obtain ⟨x, rfl, rx, hk⟩ := hD
  have t := rx.top
  cases x with
  | dict k => exact rx.elim
  | _ => simp only [isVal] at hk; simp [isInt, D_lint, D_lhandle, t, rx]; exact hk
def D_below (ds : List PyData) (h : Lh) (P : Wv) : Prop := ∃ k b, ds = [k, .int b] ∧ Nr k ∧ P (.bool (below b k)) h
theorem cal_below (S : Src K mg "_law_count_below" st__law_count_below ["k", "most"]) (T : Txt K mg) (C__law_is_integer : Cal P w K mg base CX0 1 "_law_is_integer" ["value"] (SpW K D_lint)) : Cal P w K mg base CX0 2 "_law_count_below" ["k", "most"] (SpW K D_below) := by
  have sc := sc__law_count_below
  refine S.cal (k := 1) sc (SpW.len fun ds h P z => by obtain ⟨_, _, rfl, _⟩ := z; rfl) (fun f cdv A outer s H vs Q E hr h => ⟨_, (pss_one (ps_ret (pe_and (pe_cal C__law_is_integer (hr.mono (by first | decide | omega)) rfl pass0 (pa_cons (pv 0) pa_nil)) (pe_and (pe_cmpR op_le pe_int (pv 0) (nomark _)) (pe_one (pe_cmpR op_lt (pv 0) (pv 1) (nomark _))))))), h.enter fun ds lh P hD => ?_⟩)
  obtain ⟨x, b, rfl, rx, hk⟩ := hD
  cases x with
  | dict k => exact rx.elim
  | int j =>
    simp [D_lint, rx, isInt]
    simp [below] at hk
    exact hk
  | _ => simp [D_lint, rx, isInt]; simpa [below] using hk
def D_lspot (ds : List PyData) (h : Lh) (P : Wv) : Prop := ∃ x r k, ds = [rf x, .int k] ∧ h x = some (.lst (Mm.Row.ds r)) ∧ P (.int (Mm.spot r k)) h
theorem cal_lspot (S : Src K mg "_law_spot" st__law_spot ["row", "k"]) (T : Txt K mg) : Cal P w K mg base CX0 1 "_law_spot" ["row", "k"] (SpW K D_lspot) := by
  have sc := sc__law_spot
  refine S.cal (k := 0) sc (SpW.len fun ds h P z => by obtain ⟨_, _, _, rfl, _⟩ := z; rfl) (fun f cdv A outer s H vs Q E hr h => ⟨_, (pss_one (ps_ret (pe_ifExp (PW.pt (pw_and (pt_cmpR op_notN (pe_ix (k_ix_list (K := K) rfl) (pv 0) pe_int (fun _ _ => rfl)) pe_non (nomark _)) (pw_and1 (pt_cmpR op_lt (pv 1) (pe_ix (k_ix_list (K := K) rfl) (pv 0) pe_int (fun _ _ => rfl)) (nomark _))))) (pe_op op_add (pe_ix (k_ix_list (K := K) rfl) (pv 0) pe_int (fun _ _ => rfl)) (pv 1)) (pe_op op_add (pe_ix (k_ix_list (K := K) rfl) (pv 0) pe_int (fun _ _ => rfl)) (pv 1))))), h.enter fun ds lh P hD => ?_⟩)
  obtain ⟨x, r, k, rfl, hx, hk⟩ := hD
  unfold Mm.spot at hk
  have l : Wl.lv lh (rf x) = some r.ds := by simp [Wl.lv, hx]
  cases q : r.to with
  | none =>
    rw [q] at hk
    simp [lv_ds hx, q, oI]
    exact hk
  | some t =>
    rw [q] at hk
    simp [lv_ds hx, q, oI]
    by_cases c : k < r.done
    · simp [c] at hk ⊢; exact hk
    · simp [c] at hk ⊢; exact hk
end
end K15
set_option Elab.async false
set_option linter.all false
set_option maxRecDepth 100000
set_option maxHeartbeats 4000000
set_option synthInstance.maxHeartbeats 1000000
set_option synthInstance.maxSize 1000000
namespace K15
open PySem PySem.Spec PyProof.Rows L2 Evl Pd Wl Mm
theorem lv_lst {h : Lh} {a : Addr} {ds : List PyData} (e : h a = some (.lst ds)) : Wl.lv h (rf a) = some ds := by simp [Wl.lv, e]
theorem qv_lst {h : Lh} {a : Addr} {ds : List PyData} (e : h a = some (.lst ds)) : qv h (rf a) = some ds := by simp [qv, Wl.lv, e]
theorem atSlot_lt' {m : Mem} {d : PyData} {i : Nat} (h : atSlot m d = some i) : d = .int i ∧ i < m.rows.length ∧ (m.row i).live = true := by
  unfold atSlot at h
  split at h
  · next j =>
    split at h
    · next c =>
      cases h
      exact ⟨by congr 1; omega, by omega, c.2.2⟩
    · cases h
  · cases h
section
variable {P : Program} {w : World} {K : PySem.W.Frag} {mg : Str → Option Value} {base : Heap}
def D_lrow (ds : List PyData) (h : Lh) (P : Wv) : Prop := ∃ m p d, ds = [rf p.a, d] ∧ LmK m p h ∧ Nr d ∧
  match atSlot m d with
  | some i => ∀ hi : i < p.es.length, P (rf p.es[i]) h
  | none => P .none h
theorem cal_lrow (S : Src K mg "_law_row" st__law_row ["model", "slot"]) (T : Txt K mg) : Cal P w K mg base CX0 1 "_law_row" ["model", "slot"] (SpW K D_lrow) := by
  have sc := sc__law_row
  refine S.cal (k := 0) sc (SpW.len fun ds h P z => by obtain ⟨_, _, _, rfl, _⟩ := z; rfl) (fun f cdv A outer s H vs Q E hr h => ⟨_, (pss_cons (ps_if (PW.pt (pw_or (pt_not (pt_val (pe_callB (k_isi (K := K) rfl) (by rfl) T.n_isinstance (by decide +kernel) (pa_cons (pv 1) (pa_cons (pe_bltn (v := .ty "int") (by rfl) T.n_int (by decide +kernel) rfl) pa_nil))))) (pw_or (pt_val (pe_callB (k_isi (K := K) rfl) (by rfl) T.n_isinstance (by decide +kernel) (pa_cons (pv 1) (pa_cons (pe_bltn (v := .ty "bool") (by rfl) T.n_bool (by decide +kernel) rfl) pa_nil)))) (pw_or (pt_cmpR op_lt (pv 1) pe_int (nomark _)) (pw_or1 (pt_cmpR op_ge (pv 1) (pe_callB (k_len_seq (K := K) rfl) (by rfl) T.n_len PySem.boot_len (pa_cons (pe_dget (hu_of hr) (pv 0) pe_str (fun _ _ => rfl)) pa_nil)) (nomark _))))))) (pss_one (ps_ret pe_non)) pss_nil)
  (pss_one (ps_ret (pe_ifExp (pt_val (pe_ix (k_ix_list (K := K) rfl) (pe_ix (k_ix_list (K := K) rfl) (pe_dget (hu_of hr) (pv 0) pe_str (fun _ _ => rfl)) (pv 1) (fun _ _ => rfl)) pe_int (fun _ _ => rfl))) (pe_ix (k_ix_list (K := K) rfl) (pe_dget (hu_of hr) (pv 0) pe_str (fun _ _ => rfl)) (pv 1) (fun _ _ => rfl)) pe_non)))), h.enter fun ds lh P hD => ?_⟩)
  obtain ⟨m, p, d, rfl, A0, nr, hk⟩ := hD
  have hl := A0.len
  cases d with
  | dict k => exact nr.elim
  | int i =>
    simp [A0.a, qv_lst A0.tbl, lv_lst A0.tbl]
    refine wCond_b (fun c => ?_) fun c => ?_
    · have e : atSlot m (.int i) = none := by
        simp only [atSlot]
        rw [if_neg]
        intro z
        simp at c
        omega
      rw [e] at hk
      exact hk
    · obtain ⟨j, rfl⟩ : ∃ j : Nat, i = (j : Int) := ⟨i.toNat, by simp at c; omega⟩
      have hj : j < p.es.length := by simp at c; omega
      simp only [atSlot, Int.toNat_natCast] at hk
      simp [atI_es hj, lvK A0 hj]
      refine wCond_b (fun q => ?_) fun q => ?_
      · rw [if_pos ⟨by omega, by omega, q⟩] at hk
        exact hk hj
      · rw [if_neg (by rw [q]; simp)] at hk
        exact hk
  | _ => simp; simpa [atSlot] using hk
/-- the live slots -/
abbrev liveL (m : Mem) : List Nat := (List.range m.rows.length).filter fun i => (m.row i).live
def D_llive (ds : List PyData) (h : Lh) (P : Wv) : Prop := ∃ m p, ds = [rf p.a] ∧ LmK m p h ∧ m.rows.length ≤ 1000 ∧ P (.list ((liveL m).map fun (i : Nat) => .int (i : Int))) h
theorem cal_llive (S : Src K mg "_law_live" st__law_live ["model"]) (T : Txt K mg) : Cal P w K mg base CX0 1 "_law_live" ["model"] (SpW K D_llive) := by
  have sc := sc__law_live
  refine S.cal (k := 0) sc (SpW.len fun ds h P z => by obtain ⟨_, _, rfl, _⟩ := z; rfl) (fun f cdv A outer s H vs Q E hr h => ⟨_, (pss_one (ps_ret (pe_lc (own := [("slot", 1)]) rfl sc.nd (pi_range1 (by rfl) T.n_range (pa_cons (pe_callB (k_len_seq (K := K) rfl) (by rfl) T.n_len PySem.boot_len (pa_cons (pe_dget (hu_of hr) (pv 0) pe_str (fun _ _ => rfl)) pa_nil)) pa_nil)) (blkOk_by (by first | decide +kernel | kernel_rfl)) (fun _ _ _ _ _ => (pg_name (i := 1) sc.nd rfl (by first | exact Or.inl rfl | exact Or.inr rfl))) (fun _ _ _ _ _ => (pts_one (pt_val (pe_ix (k_ix_list (K := K) rfl) (pe_ix (k_ix_list (K := K) rfl) (pe_dget (hu_of hr) (pv 0) pe_str (fun _ _ => rfl)) (pv 1) (fun _ _ => rfl)) pe_int (fun _ _ => rfl))))) (fun _ _ _ _ _ => (pv 1))))), h.enter fun ds lh P hD => ?_⟩)
  obtain ⟨m, p, rfl, A0, rc, hk⟩ := hD
  have hl := A0.len
  simp [A0.a, qv_lst A0.tbl, lv_lst A0.tbl]
  have er : rgD 0 ((p.es.length : Nat) : Int) = (List.range m.rows.length).map fun (j : Nat) => .int (j : Int) := by simp [rgD, hl]
  rw [er]
  refine ⟨by omega, lcL_filter (l := List.range m.rows.length) (emb := fun (i : Nat) => PyData.int (i : Int)) (fun i => (m.row i).live) (fun (i : Nat) => .int (i : Int)) trivial (by simp; omega) (fun i hi F F0 h1 h2 => ?_) ?_⟩
  · have hi' : i < p.es.length := by have := List.mem_range.mp hi; omega
    simp [A0.a, lv_lst A0.tbl, atI_es hi', lvK A0 hi']
    exact wCond_b h1 h2
  · exact hk
def D_lnamed (ds : List PyData) (h : Lh) (P : Wv) : Prop := ∃ m p d, ds = [rf p.a, d] ∧ LmK m p h ∧ Nr2 d ∧ (∀ i, 0 ≤ (m.row i).stamp) ∧
  match atHdl m d with
  | some i => ∀ hi : i < p.es.length, P (rf p.es[i]) h
  | none => P .none h
theorem cal_lnamed (S : Src K mg "_law_named" st__law_named ["model", "handle"]) (T : Txt K mg) (C__law_is_integer : Cal P w K mg base CX0 1 "_law_is_integer" ["value"] (SpW K D_lint)) (C__law_row : Cal P w K mg base CX0 1 "_law_row" ["model", "slot"] (SpW K D_lrow)) : Cal P w K mg base CX0 2 "_law_named" ["model", "handle"] (SpW K D_lnamed) := by
  have sc := sc__law_named
  refine S.cal (k := 1) sc (SpW.len fun ds h P z => by obtain ⟨_, _, _, rfl, _⟩ := z; rfl) (fun f cdv A outer s H vs Q E hr h => ⟨_, (pss_cons (ps_if (PW.pt (pw_or (pt_not (pt_val (pe_callB (k_isi (K := K) rfl) (by rfl) T.n_isinstance (by decide +kernel) (pa_cons (pv 1) (pa_cons (pe_bltn (v := .ty "tuple") (by rfl) T.n_tuple (by decide +kernel) rfl) pa_nil))))) (pw_or (pt_cmpR op_ne (pe_callB (k_len_seq (K := K) rfl) (by rfl) T.n_len PySem.boot_len (pa_cons (pv 1) pa_nil)) pe_int (nomark _)) (pw_or1 (pt_cmpR op_isN (pe_cal C__law_row (hr.mono (by first | decide | omega)) rfl pass0 (pa_cons (pv 0) (pa_cons (pe_ix (k_ix_tup (K := K) rfl) (pv 1) pe_int (fun _ _ => rfl)) pa_nil))) pe_non (nomark _)))))) (pss_one (ps_ret pe_non)) pss_nil)
  (pss_cons (ps_set (i := 2) sc.nd rfl (by first | exact Or.inl rfl | exact Or.inr rfl) (pe_ix (k_ix_list (K := K) rfl) (pe_dget (hu_of hr) (pv 0) pe_str (fun _ _ => rfl)) (pe_ix (k_ix_tup (K := K) rfl) (pv 1) pe_int (fun _ _ => rfl)) (fun _ _ => rfl)))
  (pss_one (ps_ret (pe_ifExp (PW.pt (pw_and (pt_val (pe_cal C__law_is_integer (hr.mono (by first | decide | omega)) rfl pass0 (pa_cons (pe_ix (k_ix_tup (K := K) rfl) (pv 1) pe_int (fun _ _ => rfl)) pa_nil))) (pw_and1 (pt_cmpR op_eq (pe_ix (k_ix_list (K := K) rfl) (pv 2) pe_int (fun _ _ => rfl)) (pe_ix (k_ix_tup (K := K) rfl) (pv 1) pe_int (fun _ _ => rfl)) (nomark _))))) (pv 2) pe_non))))), h.enter fun ds lh P hD => ?_⟩)
  obtain ⟨m, p, d, rfl, A0, nr, st, hk⟩ := hD
  have hl := A0.len
  cases d with
  | dict k => exact nr.elim
  | tuple xs =>
    match xs with
    | [] => simpa [atHdl] using hk
    | [a] => simpa [atHdl] using hk
    | [a, b] =>
      obtain ⟨na, nb⟩ := nr
      simp
      refine ⟨m, p, a, rfl, A0, na, ?_⟩
      cases ha : atSlot m a with
      | none =>
        have e : atHdl m (.tuple [a, b]) = none := by
          cases a with
          | int i => cases b with
            | int j =>
              simp only [atSlot, ite_eq_right_iff] at ha
              simp only [atHdl]
              rw [if_neg fun z => absurd (ha ⟨z.1, z.2.2.1, z.2.2.2.1⟩) (by simp)]
            | _ => rfl
          | _ => rfl
        rw [e] at hk
        simpa using hk
      | some i =>
        obtain ⟨rfl, hi, live⟩ := atSlot_lt' ha
        intro hi'
        simp [A0.a, lv_lst A0.tbl, atI_es hi']
        refine ⟨b, rfl, nb, ?_⟩
        cases b with
        | int j =>
          have en := A0.en i hi'
          simp [isInt, en]
          by_cases q : (m.row i).stamp = j
          · have e : atHdl m (.tuple [.int (i : Nat), .int j]) = some i := by
              simp only [atHdl, Int.toNat_natCast]
              rw [if_pos ⟨by omega, by rw [← q]; exact st i, by omega, live, q⟩]
            rw [e] at hk
            simp [q]
            exact hk hi'
          · have e : atHdl m (.tuple [.int (i : Nat), .int j]) = none := by
              simp only [atHdl, Int.toNat_natCast]
              rw [if_neg fun z => q z.2.2.2.2]
            rw [e] at hk
            simp [q]
            exact hk
        | _ => simp [isInt]; simpa [atHdl] using hk
    | a :: b :: c :: l =>
      have : ¬ ((l.length : Int) + 1 + 1 + 1 = 2) := by omega
      simpa [atHdl, this] using hk
  | _ => simpa [atHdl] using hk
def D_lmoving (ds : List PyData) (h : Lh) (P : Wv) : Prop := ∃ m p, ds = [rf p.a] ∧ LmK m p h ∧ m.rows.length ≤ 1000 ∧ P (match mover m with | some i => .int (i : Nat) | none => .none) h
theorem mover_find (m : Mem) : mover m = (liveL m).find? fun i => (m.row i).to.isSome := by
  have e : ∀ n, n ≤ m.rows.length → ((m.rows.take n).findIdx? fun r => r.live && r.to.isSome) = ((List.range n).filter fun i => (m.row i).live).find? fun i => (m.row i).to.isSome := by
    intro n hn
    induction n with
    | zero => rfl
    | succ n ih =>
      have hr : m.rows.take (n + 1) = m.rows.take n ++ [m.row n] := by
        rw [List.take_succ_eq_append_getElem (by omega)]
        simp [Mem.row, List.getD, show n < m.rows.length by omega]
      rw [hr, List.findIdx?_append, ih (by omega), List.range_succ, List.filter_append, List.find?_append]
      cases c : ((List.range n).filter fun i => (m.row i).live).find? fun i => (m.row i).to.isSome with
      | some x => rfl
      | none =>
        have ln : (m.rows.take n).length = n := by rw [List.length_take]; omega
        cases q : (m.row n).live <;> cases q2 : (m.row n).to <;> simp [q, q2, ln, List.findIdx?_cons]
  have := e m.rows.length (Nat.le_refl _)
  rw [List.take_length] at this
  exact this
theorem cal_lmoving (S : Src K mg "_law_moving" st__law_moving ["model"]) (T : Txt K mg) (C__law_live : Cal P w K mg base CX0 1 "_law_live" ["model"] (SpW K D_llive)) : Cal P w K mg base CX0 2 "_law_moving" ["model"] (SpW K D_lmoving) := by
  have sc := sc__law_moving
  refine S.cal (k := 1) sc (SpW.len fun ds h P z => by obtain ⟨_, _, rfl, _⟩ := z; rfl) (fun f cdv A outer s H vs Q E hr h => ⟨_, (pss_cons (ps_for PassesOwn.never rfl (k_pi_list (K := K) rfl (pe_cal C__law_live (hr.mono (by first | decide | omega)) rfl pass0 (pa_cons (pv 0) pa_nil))) (pg_name (i := 1) sc.nd rfl (by first | exact Or.inl rfl | exact Or.inr rfl)) (pss_one (ps_if (pt_cmpR op_notN (pe_ix (k_ix_list (K := K) rfl) (pe_ix (k_ix_list (K := K) rfl) (pe_dget (hu_of hr) (pv 0) pe_str (fun _ _ => rfl)) (pv 1) (fun _ _ => rfl)) pe_int (fun _ _ => rfl)) pe_non (nomark _)) (pss_one (ps_ret (pv 1))) pss_nil)))
  (pss_one (ps_ret pe_non))), h.enter fun ds lh P hD => ?_⟩)
  obtain ⟨m, p, rfl, A0, rc, hk⟩ := hD
  have hl := A0.len
  rw [mover_find] at hk
  refine wSeq_step fun B hB => ?_
  simp
  refine ⟨m, p, rfl, A0, rc, ?_⟩
  simp
  have hlv : ∀ i ∈ liveL m, i < p.es.length := fun i hi => by have := List.mem_range.mp (List.mem_filter.mp hi).1; omega
  generalize liveL m = L at hk hlv
  refine forL_run (fun ds ρ h => h = lh ∧ ∃ (rs : List Nat) (o1 : Option PyData), ds = rs.map (fun (i : Nat) => PyData.int (i : Int)) ∧ ρ = [some (rf p.a), o1] ∧ (∀ i ∈ rs, i < p.es.length) ∧ P (match rs.find? fun i => (m.row i).to.isSome with | some i => .int (i : Nat) | none => .none) lh) ?_ ?_ ⟨rfl, L, none, rfl, rfl, hlv, hk⟩
  · rintro d ds ρ h ⟨rfl, rs, o1, e, rfl, hr, hp⟩
    cases rs with
    | nil => cases e
    | cons i rs =>
      simp only [List.map_cons, List.cons.injEq] at e
      obtain ⟨rfl, rfl⟩ := e
      have hi := hr i (List.mem_cons_self ..)
      refine ⟨trivial, fun F hF => ?_⟩
      simp [A0.a, lv_lst A0.tbl, atI_es hi, lvK A0 hi]
      cases q : (m.row i).to with
      | none =>
        simp [q, oI] at hp ⊢
        exact hF _ _ ⟨rfl, rs, _, rfl, rfl, fun j hj => hr j (List.mem_cons_of_mem _ hj), hp⟩
      | some t =>
        simp [q, oI] at hp ⊢
        exact hp
  · rintro ρ h ⟨rfl, rs, o1, e, rfl, hr, hp⟩
    cases rs with
    | nil =>
      refine ⟨trivial, ?_⟩
      subst hB
      simp at hp ⊢
      exact hp
    | cons i rs => cases e
end
end K15
set_option Elab.async false
set_option linter.all false
set_option maxRecDepth 100000
set_option maxHeartbeats 4000000
set_option synthInstance.maxHeartbeats 1000000
set_option synthInstance.maxSize 1000000
namespace K15
open PySem PySem.Spec PyProof.Rows L2 Evl Pd Wl Mm
def bw : Bad → Str
  | .room => "room"
  | .handle => "handle"
  | .cell => "cell"
  | .value => "value"
  | .move => "move"
def oD : Except Bad PyData → PyData
  | .ok v => v
  | .error b => .str (bw b)
/-- what a call comes to, and what it leaves -/
def GoL (p : Mp) (h : Lh) (o : Out) (P : Wv) : Prop := ∀ h', LmK o.2 p h' → Kp p.F h h' → P (oD o.1) h'
section
variable {P : Program} {w : World} {K : PySem.W.Frag} {mg : Str → Option Value} {base : Heap}
def D_lfill (ds : List PyData) (h : Lh) (P : Wv) : Prop := ∃ m p d, ds = [rf p.a, d] ∧ LmK m p h ∧ Snd m ∧ (∀ i, 0 ≤ (m.row i).stamp) ∧ Nr2 d ∧ GoL p h (fillO m d) P
theorem cal_lfill (S : Src K mg "_law_fill" st__law_fill ["model", "handle"]) (T : Txt K mg) (C__law_named : Cal P w K mg base CX0 2 "_law_named" ["model", "handle"] (SpW K D_lnamed)) (C__law_spot : Cal P w K mg base CX0 1 "_law_spot" ["row", "k"] (SpW K D_lspot)) : Cal P w K mg base CX0 3 "_law_fill" ["model", "handle"] (SpW K D_lfill) := by
  have sc := sc__law_fill
  refine S.cal (k := 2) sc (SpW.len fun ds h P z => by obtain ⟨_, _, _, rfl, _⟩ := z; rfl) (fun f cdv A outer s H vs Q E hr h => ⟨_, (pss_cons (ps_set (i := 2) sc.nd rfl (by first | exact Or.inl rfl | exact Or.inr rfl) (pe_cal C__law_named (hr.mono (by first | decide | omega)) rfl pass0 (pa_cons (pv 0) (pa_cons (pv 1) pa_nil))))
  (pss_cons (ps_if (pt_cmpR op_isN (pv 2) pe_non (nomark _)) (pss_one (ps_ret pe_str)) pss_nil)
  (pss_cons (ps_if (pt_cmpR op_eq (pe_ix (k_ix_list (K := K) rfl) (pv 2) pe_int (fun _ _ => rfl)) (pe_ix (k_ix_list (K := K) rfl) (pv 2) pe_int (fun _ _ => rfl)) (nomark _)) (pss_one (ps_ret pe_str)) pss_nil)
  (pss_cons (ps_asg pe_non (pg_sub (pe_dget (hu_of hr) (pv 0) pe_str (fun _ _ => rfl)) (pe_cal C__law_spot (hr.mono (by first | decide | omega)) rfl pass0 (pa_cons (pv 2) (pa_cons (pe_ix (k_ix_list (K := K) rfl) (pv 2) pe_int (fun _ _ => rfl)) pa_nil))) set_list))
  (pss_cons (ps_asg (pe_op op_add (pe_ix (k_ix_list (K := K) rfl) (pv 2) pe_int (fun _ _ => rfl)) pe_int) (pg_sub (pv 2) pe_int set_list))
  (pss_one (ps_ret (pe_cmpR op_eq (pe_ix (k_ix_list (K := K) rfl) (pv 2) pe_int (fun _ _ => rfl)) (pe_ix (k_ix_list (K := K) rfl) (pv 2) pe_int (fun _ _ => rfl)) (nomark _))))))))), h.enter fun ds lh P hD => ?_⟩)
  obtain ⟨m, p, d, rfl, A0, Sn, st, nr, hk⟩ := hD
  have hl := A0.len
  refine wSeq_step fun B hB => ?_
  simp
  refine ⟨m, p, d, rfl, A0, nr, st, ?_⟩
  subst hB
  cases c : atHdl m d with
  | none =>
    have e : fillO m d = (.error .handle, m) := by simp [fillO, c]
    rw [e] at hk
    simp
    exact hk lh A0 (Kp.refl _ _)
  | some i =>
    have hi := (atHdl_lt c).2.1
    have live := (atHdl_lt c).2.2.1
    intro hi'
    have en := A0.en i hi'
    have RO := Sn.row i hi live
    have f0 := RO.fil0
    have f1 := RO.fil
    simp [en]
    refine wCond.p (fun c3 => ?_) fun c3 => ?_
    · have e : fillO m d = (.error .cell, m) := by simp [fillO, c, c3]
      rw [e] at hk
      exact hk lh A0 (Kp.refl _ _)
    · have e : fillO m d = (.ok (.bool (decide ((m.row i).filled + 1 = (m.row i).size))), (m.poke (Mm.spot (m.row i) (m.row i).filled) .none).put i { m.row i with filled := (m.row i).filled + 1 }) := by simp [fillO, c, c3]
      rw [e] at hk
      obtain ⟨s0, s1⟩ := Sn.spot hi live f0 (by omega)
      have A1 := A0.putAr (m.ar.set (Mm.spot (m.row i) (m.row i).filled).toNat .none)
      have A2 := A1.putRow i hi' { m.row i with filled := (m.row i).filled + 1 }
      have := hk _ A2 ((Kp.put (Mp.mem_ar p)).put2 (Mp.mem_es hi'))
      have ne := A0.ne_es hi'
      simp [A0.a]
      refine ⟨_, _, _, rfl, en, ?_⟩
      simp [A0.arr, ixN_int s0 s1, up_ne ne.2.1.symm, en]
      exact this
def D_lread (ds : List PyData) (h : Lh) (P : Wv) : Prop := ∃ m p d k, ds = [rf p.a, d, k] ∧ LmK m p h ∧ Snd m ∧ (∀ i, 0 ≤ (m.row i).stamp) ∧ Nr2 d ∧ Nr k ∧ GoL p h (readO m d k) P
theorem cal_lread (S : Src K mg "_law_read" st__law_read ["model", "handle", "k"]) (T : Txt K mg) (C__law_named : Cal P w K mg base CX0 2 "_law_named" ["model", "handle"] (SpW K D_lnamed)) (C__law_count_below : Cal P w K mg base CX0 2 "_law_count_below" ["k", "most"] (SpW K D_below)) (C__law_spot : Cal P w K mg base CX0 1 "_law_spot" ["row", "k"] (SpW K D_lspot)) : Cal P w K mg base CX0 3 "_law_read" ["model", "handle", "k"] (SpW K D_lread) := by
  have sc := sc__law_read
  refine S.cal (k := 2) sc (SpW.len fun ds h P z => by obtain ⟨_, _, _, _, rfl, _⟩ := z; rfl) (fun f cdv A outer s H vs Q E hr h => ⟨_, (pss_cons (ps_set (i := 3) sc.nd rfl (by first | exact Or.inl rfl | exact Or.inr rfl) (pe_cal C__law_named (hr.mono (by first | decide | omega)) rfl pass0 (pa_cons (pv 0) (pa_cons (pv 1) pa_nil))))
  (pss_cons (ps_if (pt_cmpR op_isN (pv 3) pe_non (nomark _)) (pss_one (ps_ret pe_str)) pss_nil)
  (pss_cons (ps_if (pt_not (pt_val (pe_cal C__law_count_below (hr.mono (by first | decide | omega)) rfl pass0 (pa_cons (pv 2) (pa_cons (pe_ix (k_ix_list (K := K) rfl) (pv 3) pe_int (fun _ _ => rfl)) pa_nil))))) (pss_one (ps_ret pe_str)) pss_nil)
  (pss_one (ps_ret (pe_ifExp (pt_cmpR op_lt (pv 2) (pe_ix (k_ix_list (K := K) rfl) (pv 3) pe_int (fun _ _ => rfl)) (nomark _)) (pe_ix (k_ix_list (K := K) rfl) (pe_dget (hu_of hr) (pv 0) pe_str (fun _ _ => rfl)) (pe_cal C__law_spot (hr.mono (by first | decide | omega)) rfl pass0 (pa_cons (pv 3) (pa_cons (pv 2) pa_nil))) (fun _ _ => rfl)) pe_non)))))), h.enter fun ds lh P hD => ?_⟩)
  obtain ⟨m, p, d, k, rfl, A0, Sn, st, nr, nk, hk⟩ := hD
  have hl := A0.len
  refine wSeq_step fun B hB => ?_
  simp
  refine ⟨m, p, d, rfl, A0, nr, st, ?_⟩
  subst hB
  cases c : atHdl m d with
  | none =>
    have e : readO m d k = (.error .handle, m) := by simp [readO, c]
    rw [e] at hk
    simp
    exact hk lh A0 (Kp.refl _ _)
  | some i =>
    have hi := (atHdl_lt c).2.1
    have live := (atHdl_lt c).2.2.1
    intro hi'
    have en := A0.en i hi'
    have RO := Sn.row i hi live
    simp [en, D_below, nk]
    cases c2 : below (m.row i).size k with
    | false =>
      have e : readO m d k = (.error .cell, m) := by simp [readO, c, c2]
      rw [e] at hk
      simp
      exact hk lh A0 (Kp.refl _ _)
    | true =>
      obtain ⟨j, rfl, j0, j1⟩ : ∃ j : Int, k = .int j ∧ 0 ≤ j ∧ j < (m.row i).size := by
        cases k with
        | int j => simp [below] at c2; exact ⟨j, rfl, c2.1, c2.2⟩
        | _ => simp [below] at c2
      have e : readO m d (.int j) = (.ok (if j < (m.row i).filled then m.peek (Mm.spot (m.row i) j) else .none), m) := by simp [readO, c, c2, numI]; congr
      rw [e] at hk
      have hk := hk lh A0 (Kp.refl _ _)
      simp [en]
      refine wCond.p (fun c4 => ?_) fun c4 => ?_
      · rw [if_pos c4] at hk
        obtain ⟨s0, s1⟩ := Sn.spot hi live j0 j1
        simp [A0.a]
        refine ⟨_, _, _, rfl, en, ?_⟩
        simp [A0.arr, atI_peek s0 s1]
        exact hk
      · rw [if_neg c4] at hk
        exact hk
def D_lwrite (ds : List PyData) (h : Lh) (P : Wv) : Prop := ∃ m p d k v, ds = [rf p.a, d, k, v] ∧ LmK m p h ∧ Snd m ∧ (∀ i, 0 ≤ (m.row i).stamp) ∧ Nr2 d ∧ Nr k ∧ Nr2 v ∧ GoL p h (writeO m d k v) P
theorem cal_lwrite (S : Src K mg "_law_write" st__law_write ["model", "handle", "k", "value"]) (T : Txt K mg) (C__law_named : Cal P w K mg base CX0 2 "_law_named" ["model", "handle"] (SpW K D_lnamed)) (C__law_count_below : Cal P w K mg base CX0 2 "_law_count_below" ["k", "most"] (SpW K D_below)) (C__law_is_value : Cal P w K mg base CX0 3 "_law_is_value" ["value"] (SpW K D_lvalue)) (C__law_spot : Cal P w K mg base CX0 1 "_law_spot" ["row", "k"] (SpW K D_lspot)) : Cal P w K mg base CX0 4 "_law_write" ["model", "handle", "k", "value"] (SpW K D_lwrite) := by
  have sc := sc__law_write
  refine S.cal (k := 3) sc (SpW.len fun ds h P z => by obtain ⟨_, _, _, _, _, rfl, _⟩ := z; rfl) (fun f cdv A outer s H vs Q E hr h => ⟨_, (pss_cons (ps_set (i := 4) sc.nd rfl (by first | exact Or.inl rfl | exact Or.inr rfl) (pe_cal C__law_named (hr.mono (by first | decide | omega)) rfl pass0 (pa_cons (pv 0) (pa_cons (pv 1) pa_nil))))
  (pss_cons (ps_if (pt_cmpR op_isN (pv 4) pe_non (nomark _)) (pss_one (ps_ret pe_str)) pss_nil)
  (pss_cons (ps_if (pt_not (pt_val (pe_cal C__law_count_below (hr.mono (by first | decide | omega)) rfl pass0 (pa_cons (pv 2) (pa_cons (pe_ix (k_ix_list (K := K) rfl) (pv 4) pe_int (fun _ _ => rfl)) pa_nil))))) (pss_one (ps_ret pe_str)) pss_nil)
  (pss_cons (ps_if (pt_not (pt_val (pe_cal C__law_is_value (hr.mono (by first | decide | omega)) rfl pass0 (pa_cons (pv 3) pa_nil)))) (pss_one (ps_ret pe_str)) pss_nil)
  (pss_cons (ps_set (i := 5) sc.nd rfl (by first | exact Or.inl rfl | exact Or.inr rfl) (pe_ix (k_ix_list (K := K) rfl) (pe_dget (hu_of hr) (pv 0) pe_str (fun _ _ => rfl)) (pe_cal C__law_spot (hr.mono (by first | decide | omega)) rfl pass0 (pa_cons (pv 4) (pa_cons (pv 2) pa_nil))) (fun _ _ => rfl)))
  (pss_cons (ps_asg (pv 3) (pg_sub (pe_dget (hu_of hr) (pv 0) pe_str (fun _ _ => rfl)) (pe_cal C__law_spot (hr.mono (by first | decide | omega)) rfl pass0 (pa_cons (pv 4) (pa_cons (pv 2) pa_nil))) set_list))
  (pss_one (ps_ret (pv 5))))))))), h.enter fun ds lh P hD => ?_⟩)
  obtain ⟨m, p, d, k, v, rfl, A0, Sn, st, nr, nk, nv, hk⟩ := hD
  have hl := A0.len
  refine wSeq_step fun B hB => ?_
  simp
  refine ⟨m, p, d, rfl, A0, nr, st, ?_⟩
  subst hB
  cases c : atHdl m d with
  | none =>
    have e : writeO m d k v = (.error .handle, m) := by simp [writeO, c]
    rw [e] at hk
    simp
    exact hk lh A0 (Kp.refl _ _)
  | some i =>
    have hi := (atHdl_lt c).2.1
    have live := (atHdl_lt c).2.2.1
    intro hi'
    have en := A0.en i hi'
    have RO := Sn.row i hi live
    have f1 := RO.fil
    refine wSeq_step fun B hB => ?_
    simp
    subst hB
    simp [en, D_below, nk]
    cases c2 : below (m.row i).filled k with
    | false =>
      have e : writeO m d k v = (.error .cell, m) := by simp [writeO, c, c2]
      rw [e] at hk
      simp
      exact hk lh A0 (Kp.refl _ _)
    | true =>
      obtain ⟨j, rfl, j0, j1⟩ : ∃ j : Int, k = .int j ∧ 0 ≤ j ∧ j < (m.row i).filled := by
        cases k with
        | int j => simp [below] at c2; exact ⟨j, rfl, c2.1, c2.2⟩
        | _ => simp [below] at c2
      simp [D_lvalue, nv]
      cases c3 : isVal v with
      | false =>
        have e : writeO m d (.int j) v = (.error .value, m) := by simp [writeO, c, c2, c3]
        rw [e] at hk
        simp
        exact hk lh A0 (Kp.refl _ _)
      | true =>
        have e : writeO m d (.int j) v = (.ok (m.peek (Mm.spot (m.row i) j)), m.poke (Mm.spot (m.row i) j) v) := by simp [writeO, c, c2, numI, c3]
        rw [e] at hk
        obtain ⟨s0, s1⟩ := Sn.spot hi live j0 (by omega)
        have := hk _ (A0.putAr (m.ar.set (Mm.spot (m.row i) j).toNat v)) (Kp.put (Mp.mem_ar p))
        simp [A0.a]
        refine ⟨_, _, _, rfl, en, ?_⟩
        simp [A0.a, A0.arr, atI_peek s0 s1]
        refine ⟨_, _, _, rfl, en, ?_⟩
        simp [A0.arr, ixN_int s0 s1]
        exact this
def D_lfree (ds : List PyData) (h : Lh) (P : Wv) : Prop := ∃ m p d, ds = [rf p.a, d] ∧ LmK m p h ∧ Nr d ∧ GoL p h (freeO m d) P
theorem cal_lfree (S : Src K mg "_law_free" st__law_free ["model", "slot"]) (T : Txt K mg) (C__law_row : Cal P w K mg base CX0 1 "_law_row" ["model", "slot"] (SpW K D_lrow)) : Cal P w K mg base CX0 2 "_law_free" ["model", "slot"] (SpW K D_lfree) := by
  have sc := sc__law_free
  refine S.cal (k := 1) sc (SpW.len fun ds h P z => by obtain ⟨_, _, _, rfl, _⟩ := z; rfl) (fun f cdv A outer s H vs Q E hr h => ⟨_, (pss_cons (ps_set (i := 2) sc.nd rfl (by first | exact Or.inl rfl | exact Or.inr rfl) (pe_cal C__law_row (hr.mono (by first | decide | omega)) rfl pass0 (pa_cons (pv 0) (pa_cons (pv 1) pa_nil))))
  (pss_cons (ps_if (pt_cmpR op_isN (pv 2) pe_non (nomark _)) (pss_one (ps_ret pe_str)) pss_nil)
  (pss_cons (ps_if (pt_cmpR op_notN (pe_ix (k_ix_list (K := K) rfl) (pv 2) pe_int (fun _ _ => rfl)) pe_non (nomark _)) (pss_one (ps_ret pe_str)) pss_nil)
  (pss_cons (ps_asg (pe_op op_add (pe_ix (k_ix_list (K := K) rfl) (pv 2) pe_int (fun _ _ => rfl)) pe_int) (pg_sub (pv 2) pe_int set_list))
  (pss_cons (ps_asg pe_bl (pg_sub (pv 2) pe_int set_list))
  (pss_one (ps_ret pe_non))))))), h.enter fun ds lh P hD => ?_⟩)
  obtain ⟨m, p, d, rfl, A0, nr, hk⟩ := hD
  have hl := A0.len
  refine wSeq_step fun B hB => ?_
  simp
  refine ⟨m, p, d, rfl, A0, nr, ?_⟩
  subst hB
  cases c : atSlot m d with
  | none =>
    have e : freeO m d = (.error .handle, m) := by simp [freeO, c]
    rw [e] at hk
    simp
    exact hk lh A0 (Kp.refl _ _)
  | some i =>
    intro hi'
    have en := A0.en i hi'
    cases c2 : (m.row i).to with
    | some t =>
      have e : freeO m d = (.error .move, m) := by simp [freeO, c, c2]
      rw [e] at hk
      simp [en, c2, oI]
      exact hk lh A0 (Kp.refl _ _)
    | none =>
      have e : freeO m d = (.ok .none, m.put i { m.row i with live := false, stamp := (m.row i).stamp + 1 }) := by simp [freeO, c, c2]
      rw [e] at hk
      have := hk _ (A0.putRow i hi' _) (Kp.put (Mp.mem_es hi'))
      simp [en, c2, oI]
      simpa [c2, oI, oD, Mm.Row.ds] using this
end
end K15
set_option Elab.async false
set_option linter.all false
set_option maxRecDepth 100000
set_option maxHeartbeats 4000000
set_option synthInstance.maxHeartbeats 1000000
set_option synthInstance.maxSize 1000000
namespace K15
open PySem PySem.Spec PyProof.Rows L2 Evl Pd Wl Mm
section
variable {P : Program} {w : World} {K : PySem.W.Frag} {mg : Str → Option Value} {base : Heap}
def D_lcopy (ds : List PyData) (h : Lh) (P : Wv) : Prop := ∃ m p d, ds = [rf p.a, d] ∧ LmK m p h ∧ Snd m ∧ Nr d ∧ GoL p h (copyO m d) P
theorem cal_lcopy (S : Src K mg "_law_copy" st__law_copy ["model", "slot"]) (T : Txt K mg) (C__law_row : Cal P w K mg base CX0 1 "_law_row" ["model", "slot"] (SpW K D_lrow)) : Cal P w K mg base CX0 2 "_law_copy" ["model", "slot"] (SpW K D_lcopy) := by
  have sc := sc__law_copy
  refine S.cal (k := 1) sc (SpW.len fun ds h P z => by obtain ⟨_, _, _, rfl, _⟩ := z; rfl) (fun f cdv A outer s H vs Q E hr h => ⟨_, (pss_cons (ps_set (i := 2) sc.nd rfl (by first | exact Or.inl rfl | exact Or.inr rfl) (pe_cal C__law_row (hr.mono (by first | decide | omega)) rfl pass0 (pa_cons (pv 0) (pa_cons (pv 1) pa_nil))))
  (pss_cons (ps_if (pt_cmpR op_isN (pv 2) pe_non (nomark _)) (pss_one (ps_ret pe_str)) pss_nil)
  (pss_cons (ps_if (PW.pt (pw_or (pt_cmpR op_isN (pe_ix (k_ix_list (K := K) rfl) (pv 2) pe_int (fun _ _ => rfl)) pe_non (nomark _)) (pw_or1 (pt_cmpR op_eq (pe_ix (k_ix_list (K := K) rfl) (pv 2) pe_int (fun _ _ => rfl)) (pe_ix (k_ix_list (K := K) rfl) (pv 2) pe_int (fun _ _ => rfl)) (nomark _))))) (pss_one (ps_ret pe_str)) pss_nil)
  (pss_cons (ps_asg (pe_ix (k_ix_list (K := K) rfl) (pe_dget (hu_of hr) (pv 0) pe_str (fun _ _ => rfl)) (pe_op op_add (pe_ix (k_ix_list (K := K) rfl) (pv 2) pe_int (fun _ _ => rfl)) (pe_ix (k_ix_list (K := K) rfl) (pv 2) pe_int (fun _ _ => rfl))) (fun _ _ => rfl)) (pg_sub (pe_dget (hu_of hr) (pv 0) pe_str (fun _ _ => rfl)) (pe_op op_add (pe_ix (k_ix_list (K := K) rfl) (pv 2) pe_int (fun _ _ => rfl)) (pe_ix (k_ix_list (K := K) rfl) (pv 2) pe_int (fun _ _ => rfl))) set_list))
  (pss_cons (ps_asg (pe_op op_add (pe_ix (k_ix_list (K := K) rfl) (pv 2) pe_int (fun _ _ => rfl)) pe_int) (pg_sub (pv 2) pe_int set_list))
  (pss_one (ps_ret (pe_cmpR op_eq (pe_ix (k_ix_list (K := K) rfl) (pv 2) pe_int (fun _ _ => rfl)) (pe_ix (k_ix_list (K := K) rfl) (pv 2) pe_int (fun _ _ => rfl)) (nomark _))))))))), h.enter fun ds lh P hD => ?_⟩)
  obtain ⟨m, p, d, rfl, A0, Sn, nr, hk⟩ := hD
  have hl := A0.len
  refine wSeq_step fun B hB => ?_
  simp
  refine ⟨m, p, d, rfl, A0, nr, ?_⟩
  subst hB
  cases c : atSlot m d with
  | none =>
    have e : copyO m d = (.error .handle, m) := by simp [copyO, c]
    rw [e] at hk
    simp
    exact hk lh A0 (Kp.refl _ _)
  | some i =>
    obtain ⟨rfl, hi, live⟩ := atSlot_lt' c
    intro hi'
    have en := A0.en i hi'
    have RO := Sn.row i hi live
    cases c2 : (m.row i).to with
    | none =>
      have e : copyO m (.int i) = (.error .move, m) := by simp [copyO, c, c2]
      rw [e] at hk
      simp [en, c2, oI]
      exact hk lh A0 (Kp.refl _ _)
    | some t =>
      obtain ⟨t0, t1, t2⟩ := RO.to t c2
      have d0 := RO.dn0
      have rhi := RO.hi
      have eL := Sn.eL
      have z := RO.size
      simp [en, c2, oI]
      refine wCond.p (fun c3 => ?_) fun c3 => ?_
      · have e : copyO m (.int i) = (.error .move, m) := by simp [copyO, c, c2, c3]
        rw [e] at hk
        exact hk lh A0 (Kp.refl _ _)
      · have e : copyO m (.int i) = (.ok (.bool (decide ((m.row i).done + 1 = (m.row i).size))), (m.poke (t + (m.row i).done) (m.peek ((m.row i).start + (m.row i).done))).put i { m.row i with done := (m.row i).done + 1 }) := by simp [copyO, c, c2, c3]
        rw [e] at hk
        have A1 := A0.putAr (m.ar.set (t + (m.row i).done).toNat (m.peek ((m.row i).start + (m.row i).done)))
        have A2 := A1.putRow i hi' { m.row i with done := (m.row i).done + 1 }
        have := hk _ A2 ((Kp.put (Mp.mem_ar p)).put2 (Mp.mem_es hi'))
        have ne := A0.ne_es hi'
        have p1 := atI_peek (m := m) (k := (m.row i).start + (m.row i).done) (by omega) (by omega)
        have p2 := ixN_int (n := m.ar.length) (k := t + (m.row i).done) (by omega) (by omega)
        simp [A0.a, A0.arr, en, c2, oI, p1, p2, up_ne ne.2.1.symm]
        simpa [c2, oI, oD, Mm.Row.ds] using this
def D_lturn (ds : List PyData) (h : Lh) (P : Wv) : Prop := ∃ m p d, ds = [rf p.a, d] ∧ LmK m p h ∧ Nr d ∧ GoL p h (turnO m d) P
theorem cal_lturn (S : Src K mg "_law_turn" st__law_turn ["model", "slot"]) (T : Txt K mg) (C__law_row : Cal P w K mg base CX0 1 "_law_row" ["model", "slot"] (SpW K D_lrow)) : Cal P w K mg base CX0 2 "_law_turn" ["model", "slot"] (SpW K D_lturn) := by
  have sc := sc__law_turn
  refine S.cal (k := 1) sc (SpW.len fun ds h P z => by obtain ⟨_, _, _, rfl, _⟩ := z; rfl) (fun f cdv A outer s H vs Q E hr h => ⟨_, (pss_cons (ps_set (i := 2) sc.nd rfl (by first | exact Or.inl rfl | exact Or.inr rfl) (pe_cal C__law_row (hr.mono (by first | decide | omega)) rfl pass0 (pa_cons (pv 0) (pa_cons (pv 1) pa_nil))))
  (pss_cons (ps_if (pt_cmpR op_isN (pv 2) pe_non (nomark _)) (pss_one (ps_ret pe_str)) pss_nil)
  (pss_cons (ps_if (PW.pt (pw_or (pt_cmpR op_isN (pe_ix (k_ix_list (K := K) rfl) (pv 2) pe_int (fun _ _ => rfl)) pe_non (nomark _)) (pw_or1 (pt_cmpR op_lt (pe_ix (k_ix_list (K := K) rfl) (pv 2) pe_int (fun _ _ => rfl)) (pe_ix (k_ix_list (K := K) rfl) (pv 2) pe_int (fun _ _ => rfl)) (nomark _))))) (pss_one (ps_ret pe_str)) pss_nil)
  (pss_cons (ps_asg (pe_ix (k_ix_list (K := K) rfl) (pv 2) pe_int (fun _ _ => rfl)) (pg_sub (pv 2) pe_int set_list))
  (pss_cons (ps_asg pe_non (pg_sub (pv 2) pe_int set_list))
  (pss_cons (ps_asg pe_int (pg_sub (pv 2) pe_int set_list))
  (pss_one (ps_ret pe_non)))))))), h.enter fun ds lh P hD => ?_⟩)
  obtain ⟨m, p, d, rfl, A0, nr, hk⟩ := hD
  have hl := A0.len
  refine wSeq_step fun B hB => ?_
  simp
  refine ⟨m, p, d, rfl, A0, nr, ?_⟩
  subst hB
  cases c : atSlot m d with
  | none =>
    have e : turnO m d = (.error .handle, m) := by simp [turnO, c]
    rw [e] at hk
    simp
    exact hk lh A0 (Kp.refl _ _)
  | some i =>
    obtain ⟨rfl, hi, live⟩ := atSlot_lt' c
    intro hi'
    have en := A0.en i hi'
    cases c2 : (m.row i).to with
    | none =>
      have e : turnO m (.int i) = (.error .move, m) := by simp [turnO, c, c2]
      rw [e] at hk
      simp [en, c2, oI]
      exact hk lh A0 (Kp.refl _ _)
    | some t =>
      simp [en, c2, oI]
      refine wCond.p (fun c3 => ?_) fun c3 => ?_
      · have e : turnO m (.int i) = (.error .move, m) := by simp [turnO, c, c2, c3]
        rw [e] at hk
        exact hk lh A0 (Kp.refl _ _)
      · have e : turnO m (.int i) = (.ok .none, m.put i { m.row i with start := t, to := none, done := 0 }) := by simp [turnO, c, c2, c3]
        rw [e] at hk
        have := hk _ (A0.putRow i hi' _) (Kp.put (Mp.mem_es hi'))

        simpa [oD, c2, oI, Mm.Row.ds] using this
def D_lsettle (ds : List PyData) (h : Lh) (P : Wv) : Prop := ∃ m p f, ds = [rf p.a, f] ∧ LmK m p h ∧ Snd m ∧ Nr f ∧ GoL p h (settleO m f) P
theorem any_live (m : Mem) (f : Nat → Bool) : ((liveL m).map f).any id = (List.range m.rows.length).any fun i => (m.row i).live && f i := by
  rw [List.any_map, List.any_filter]
  rfl
theorem rows_any (m : Mem) (f : Mm.Row → Bool) : m.rows.any f = (List.range m.rows.length).any fun i => f (m.row i) := by
  conv => lhs; rw [rows_range m]
  rw [List.any_map]; rfl
theorem cal_lsettle (S : Src K mg "_law_settle" st__law_settle ["model", "frontier"]) (T : Txt K mg) (C__law_live : Cal P w K mg base CX0 1 "_law_live" ["model"] (SpW K D_llive)) (C__law_moving : Cal P w K mg base CX0 2 "_law_moving" ["model"] (SpW K D_lmoving)) (C__law_count_below : Cal P w K mg base CX0 2 "_law_count_below" ["k", "most"] (SpW K D_below)) : Cal P w K mg base CX0 3 "_law_settle" ["model", "frontier"] (SpW K D_lsettle) := by
  have sc := sc__law_settle
  refine S.cal (k := 2) sc (SpW.len fun ds h P z => by obtain ⟨_, _, _, rfl, _⟩ := z; rfl) (fun f cdv A outer s H vs Q E hr h => ⟨_, (pss_cons (ps_if (PW.pt (pw_or (pt_cmpR op_notN (pe_cal C__law_moving (hr.mono (by first | decide | omega)) rfl pass0 (pa_cons (pv 0) pa_nil)) pe_non (nomark _)) (pw_or1 (pt_not (pt_val (pe_cal C__law_count_below (hr.mono (by first | decide | omega)) rfl pass0 (pa_cons (pv 1) (pa_cons (pe_op op_add (pe_dget (hu_of hr) (pv 0) pe_str (fun _ _ => rfl)) pe_int) pa_nil)))))))) (pss_one (ps_ret pe_str)) pss_nil)
  (pss_cons (ps_if (pt_val (pe_callB (k_any (K := K) rfl rfl) (by rfl) T.n_any (by decide +kernel) (pa_cons (pe_lc (own := [("slot", 2)]) rfl sc.nd (k_pi_list (K := K) rfl (pe_cal C__law_live (hr.mono (by first | decide | omega)) rfl pass0 (pa_cons (pv 0) pa_nil))) (blkOk_by (by first | decide +kernel | kernel_rfl)) (fun _ _ _ _ _ => (pg_name (i := 2) sc.nd rfl (by first | exact Or.inl rfl | exact Or.inr rfl))) (fun _ _ _ _ _ => pts_nil) (fun _ _ _ _ _ => (pe_cmpR op_gt (pe_op op_add (pe_ix (k_ix_list (K := K) rfl) (pe_ix (k_ix_list (K := K) rfl) (pe_dget (hu_of hr) (pv 0) pe_str (fun _ _ => rfl)) (pv 2) (fun _ _ => rfl)) pe_int (fun _ _ => rfl)) (pe_ix (k_ix_list (K := K) rfl) (pe_ix (k_ix_list (K := K) rfl) (pe_dget (hu_of hr) (pv 0) pe_str (fun _ _ => rfl)) (pv 2) (fun _ _ => rfl)) pe_int (fun _ _ => rfl))) (pv 1) (nomark _)))) pa_nil))) (pss_one (ps_ret pe_str)) pss_nil)
  (pss_cons (ps_dput (hu_of hr) (pv 0) pe_str (pv 1) rfl)
  (pss_one (ps_ret pe_non))))), h.enter fun ds lh P hD => ?_⟩)
  obtain ⟨m, p, d, rfl, A0, Sn, nr, hk⟩ := hD
  have hl := A0.len
  have rc := Sn.rc
  refine wSeq_step fun B hB => ?_
  simp
  refine ⟨m, p, rfl, A0, rc, ?_⟩
  cases c : mover m with
  | some i =>
    have e : settleO m d = (.error .move, m) := by simp [settleO, c]
    rw [e] at hk
    simp
    exact hk lh A0 (Kp.refl _ _)
  | none =>
    simp [A0.a]
    refine ⟨d, _, rfl, nr, ?_⟩
    cases c2 : below (m.e + 1) d with
    | false =>
      have e : settleO m d = (.error .move, m) := by simp [settleO, c, c2]
      rw [e] at hk
      simp
      exact hk lh A0 (Kp.refl _ _)
    | true =>
      obtain ⟨j, rfl, j0, j1⟩ : ∃ j : Int, d = .int j ∧ 0 ≤ j ∧ j < m.e + 1 := by
        cases d with
        | int j => simp [below] at c2; exact ⟨j, rfl, c2.1, c2.2⟩
        | _ => simp [below] at c2
      simp
      subst hB
      refine wSeq_step fun B hB => ?_
      simp
      refine ⟨m, p, rfl, A0, rc, ?_⟩
      simp
      have ll : (liveL m).length ≤ 1000 := by have := List.length_filter_le (fun i => (m.row i).live) (List.range m.rows.length); rw [List.length_range] at this; show ((List.range m.rows.length).filter fun i => (m.row i).live).length ≤ 1000; omega
      refine lcL_map (l := liveL m) (emb := fun (i : Nat) => PyData.int (i : Int)) (fun i => .bool (decide (j < (m.row i).start + (m.row i).size))) trivial (by omega) (fun i hi F hF => ?_) ?_
      · have hi' : i < p.es.length := by have := List.mem_range.mp (List.mem_filter.mp hi).1; omega
        have en := A0.en i hi'
        simp [A0.a, lv_lst A0.tbl, atI_es hi', lvK A0 hi']
        exact hF
      · refine ⟨_, boolL_mapF _ _, ?_⟩
        rw [any_live]
        have k2 : ∀ b : Bool, (List.range m.rows.length).any (fun i => (m.row i).live && decide (j < (m.row i).start + (m.row i).size)) = b → settleO m (.int j) = if b then (.error .move, m) else (.ok .none, { m with e := j }) := fun b hb => by
          rw [← rows_any m fun r => r.live && decide (j < r.start + r.size)] at hb
          simp only [settleO, c, c2, numI]
          simp only [gt_iff_lt, hb]
          simp
        refine wCond_b (fun hb => ?_) fun hb => ?_
        · rw [k2 _ hb] at hk
          exact hk lh A0 (Kp.refl _ _)
        · rw [k2 _ hb] at hk
          have := hk _ (A0.putE j) (Kp.put (Mp.mem_a p))
          subst hB
          simp [A0.a]
          exact this
end
end K15
set_option Elab.async false
set_option linter.all false
set_option maxRecDepth 100000
set_option maxHeartbeats 4000000
set_option synthInstance.maxHeartbeats 1000000
set_option synthInstance.maxSize 1000000
namespace K15
open PySem PySem.Spec PyProof.Rows L2 Evl Pd Wl Mm
section
variable {P : Program} {w : World} {K : PySem.W.Frag} {mg : Str → Option Value} {base : Heap}
def D_lbegin (ds : List PyData) (h : Lh) (P : Wv) : Prop := ∃ m p d t, ds = [rf p.a, d, t] ∧ LmK m p h ∧ Snd m ∧ m.ar.length ≤ 100 ∧ m.rows.length ≤ 10 ∧ Nr d ∧ Nr t ∧ GoL p h (beginO m d t) P
/-- the cells that others take -/
def tkOf (m : Mem) (s : Nat) (L : List Nat) : List Int := (L.filter fun i => decide (i ≠ s)).flatMap fun i => (List.range (m.row i).size.toNat).map fun (k : Nat) => (m.row i).start + (k : Int)
theorem tk_mem {m : Mem} {s : Nat} {x : Int} (S : Snd m) : x ∈ tkOf m s (liveL m) ↔ ∃ i, Lv m i ∧ i ≠ s ∧ (m.row i).start ≤ x ∧ x < (m.row i).start + (m.row i).size := by
  unfold tkOf
  rw [List.mem_flatMap]
  constructor
  · rintro ⟨i, hi, hx⟩
    obtain ⟨h1, h2⟩ := List.mem_filter.mp hi
    obtain ⟨h3, h4⟩ := List.mem_filter.mp h1
    obtain ⟨k, hk, rfl⟩ := List.mem_map.mp hx
    have := List.mem_range.mp hk
    exact ⟨i, ⟨List.mem_range.mp h3, h4⟩, by simpa using h2, by omega, by omega⟩
  · rintro ⟨i, hl, ne, h1, h2⟩
    refine ⟨i, List.mem_filter.mpr ⟨List.mem_filter.mpr ⟨List.mem_range.mpr hl.1, hl.2⟩, by simpa using ne⟩, List.mem_map.mpr ⟨(x - (m.row i).start).toNat, List.mem_range.mpr (by omega), by omega⟩⟩
theorem begin_law {m : Mem} (S : Snd m) {s : Nat} (hs : Lv m s) (hm : mover m = none) {t : Int} (t0 : 0 ≤ t) (ht : t < (m.row s).start) :
    (m.rows.any fun o => o.live && decide (o.start < (m.row s).start) && decide (t < o.start + o.size)) = ((rgD t (m.row s).start).any fun d => match d with | .int x => decide (x ∈ tkOf m s (liveL m)) | _ => false) := by
  rw [rows_any, Bool.eq_iff_iff, List.any_eq_true, List.any_eq_true]
  constructor
  · rintro ⟨i, hi, h⟩
    simp only [Bool.and_eq_true, decide_eq_true_eq] at h
    obtain ⟨⟨h1, h2⟩, h3⟩ := h
    have hl : Lv m i := ⟨List.mem_range.mp hi, h1⟩
    have ne : i ≠ s := fun z => by subst z; omega
    have z := (S.row i hl.1 hl.2).size
    -- a cell that both have
    have : ∃ x : Int, t ≤ x ∧ x < (m.row s).start ∧ (m.row i).start ≤ x ∧ x < (m.row i).start + (m.row i).size := by
      rcases Int.lt_or_le t (m.row i).start with q | q
      · exact ⟨(m.row i).start, by omega, h2, by omega, by omega⟩
      · exact ⟨t, by omega, ht, q, h3⟩
    obtain ⟨x, x1, x2, x3, x4⟩ := this
    refine ⟨.int x, ?_, by simpa using (tk_mem S).mpr ⟨i, hl, ne, x3, x4⟩⟩
    simp only [rgD, List.mem_map, List.mem_range]
    exact ⟨(x - t).toNat, by omega, by congr 1; omega⟩
  · rintro ⟨d, hd, h⟩
    simp only [rgD, List.mem_map, List.mem_range] at hd
    obtain ⟨k, hk, rfl⟩ := hd
    simp at h
    obtain ⟨i, hl, ne, h1, h2⟩ := (tk_mem S).mp h
    refine ⟨i, List.mem_range.mpr hl.1, ?_⟩
    have hlv := hl.2
    have dd := S.dis s i hs.1 hl.1 (Ne.symm ne) hs.2 hl.2
    unfold Mm.hi Mm.lo at dd
    rw [mover_none hm s hs, mover_none hm i hl] at dd
    simp only [Option.getD_none] at dd
    simp [hlv]
    omega
theorem cal_lbegin (S : Src K mg "_law_begin" st__law_begin ["model", "slot", "to"]) (T : Txt K mg) (C__law_live : Cal P w K mg base CX0 1 "_law_live" ["model"] (SpW K D_llive)) (C__law_moving : Cal P w K mg base CX0 2 "_law_moving" ["model"] (SpW K D_lmoving)) (C__law_count_below : Cal P w K mg base CX0 2 "_law_count_below" ["k", "most"] (SpW K D_below)) (C__law_row : Cal P w K mg base CX0 1 "_law_row" ["model", "slot"] (SpW K D_lrow)) : Cal P w K mg base CX0 3 "_law_begin" ["model", "slot", "to"] (SpW K D_lbegin) := by
  have sc := sc__law_begin
  refine S.cal (k := 2) sc (SpW.len fun ds h P z => by obtain ⟨_, _, _, _, rfl, _⟩ := z; rfl) (fun f cdv A outer s H vs Q E hr h => ⟨_, (pss_cons (ps_set (i := 3) sc.nd rfl (by first | exact Or.inl rfl | exact Or.inr rfl) (pe_cal C__law_row (hr.mono (by first | decide | omega)) rfl pass0 (pa_cons (pv 0) (pa_cons (pv 1) pa_nil))))
  (pss_cons (ps_if (pt_cmpR op_isN (pv 3) pe_non (nomark _)) (pss_one (ps_ret pe_str)) pss_nil)
  (pss_cons (ps_if (PW.pt (pw_or (pt_cmpR op_notN (pe_cal C__law_moving (hr.mono (by first | decide | omega)) rfl pass0 (pa_cons (pv 0) pa_nil)) pe_non (nomark _)) (pw_or1 (pt_not (pt_val (pe_cal C__law_count_below (hr.mono (by first | decide | omega)) rfl pass0 (pa_cons (pv 2) (pa_cons (pe_ix (k_ix_list (K := K) rfl) (pv 3) pe_int (fun _ _ => rfl)) pa_nil)))))))) (pss_one (ps_ret pe_str)) pss_nil)
  (pss_cons (ps_set (i := 4) sc.nd rfl (by first | exact Or.inl rfl | exact Or.inr rfl) (pe_lst pa_nil))
  (pss_cons (ps_for PassesOwn.never rfl (k_pi_list (K := K) rfl (pe_cal C__law_live (hr.mono (by first | decide | omega)) rfl pass0 (pa_cons (pv 0) pa_nil))) (pg_name (i := 5) sc.nd rfl (by first | exact Or.inl rfl | exact Or.inr rfl)) (pss_one (ps_if (pt_cmpR op_ne (pv 5) (pv 1) (nomark _)) (pss_one (ps_set (i := 4) sc.nd rfl (by first | exact Or.inl rfl | exact Or.inr rfl) (pe_op op_cat (pv 4) (pe_listRg rfl (by rfl) T.n_list (prg_2 (by rfl) T.n_range (pe_ix (k_ix_list (K := K) rfl) (pe_ix (k_ix_list (K := K) rfl) (pe_dget (hu_of hr) (pv 0) pe_str (fun _ _ => rfl)) (pv 5) (fun _ _ => rfl)) pe_int (fun _ _ => rfl)) (pe_op op_add (pe_ix (k_ix_list (K := K) rfl) (pe_ix (k_ix_list (K := K) rfl) (pe_dget (hu_of hr) (pv 0) pe_str (fun _ _ => rfl)) (pv 5) (fun _ _ => rfl)) pe_int (fun _ _ => rfl)) (pe_ix (k_ix_list (K := K) rfl) (pe_ix (k_ix_list (K := K) rfl) (pe_dget (hu_of hr) (pv 0) pe_str (fun _ _ => rfl)) (pv 5) (fun _ _ => rfl)) pe_int (fun _ _ => rfl)))))))) pss_nil)))
  (pss_cons (ps_if (pt_val (pe_callB (k_any (K := K) rfl rfl) (by rfl) T.n_any (by decide +kernel) (pa_cons (pe_lc (own := [("spot", 6)]) rfl sc.nd (pi_range2 (by rfl) T.n_range (pa_cons (pv 2) (pa_cons (pe_ix (k_ix_list (K := K) rfl) (pv 3) pe_int (fun _ _ => rfl)) pa_nil))) (blkOk_by (by first | decide +kernel | kernel_rfl)) (fun _ _ _ _ _ => (pg_name (i := 6) sc.nd rfl (by first | exact Or.inl rfl | exact Or.inr rfl))) (fun _ _ _ _ _ => pts_nil) (fun _ _ _ _ _ => (pe_cmpR (k_in_seq (K := K) rfl) (pv 6) (pv 4) (by rfl)))) pa_nil))) (pss_one (ps_ret pe_str)) pss_nil)
  (pss_cons (ps_asg (pv 2) (pg_sub (pv 3) pe_int set_list))
  (pss_cons (ps_asg pe_int (pg_sub (pv 3) pe_int set_list))
  (pss_one (ps_ret pe_non)))))))))), h.enter fun ds lh P hD => ?_⟩)
  obtain ⟨m, p, d, t, rfl, A0, Sn, a100, r10, nr, nt, hk⟩ := hD
  have hl := A0.len
  have rc := Sn.rc
  refine wSeq_step fun B hB => ?_
  simp
  refine ⟨m, p, d, rfl, A0, nr, ?_⟩
  subst hB
  cases c : atSlot m d with
  | none =>
    have e : beginO m d t = (.error .handle, m) := by simp [beginO, c]
    rw [e] at hk
    simp
    exact hk lh A0 (Kp.refl _ _)
  | some s =>
    obtain ⟨rfl, hi, live⟩ := atSlot_lt' c
    intro hi'
    have en := A0.en s hi'
    refine wSeq_step fun B hB => ?_
    simp
    subst hB
    refine wSeq_step fun B hB => ?_
    simp
    refine ⟨m, p, rfl, A0, rc, ?_⟩
    cases c1 : mover m with
    | some i =>
      have e : beginO m (.int s) t = (.error .move, m) := by simp [beginO, c, c1]
      rw [e] at hk
      simp
      exact hk lh A0 (Kp.refl _ _)
    | none =>
      simp [en]
      refine ⟨t, _, rfl, nt, ?_⟩
      have eb : isTo (m.row s) t = below (m.row s).start t := by cases t <;> rfl
      cases c2 : below (m.row s).start t with
      | false =>
        have e : beginO m (.int s) t = (.error .move, m) := by simp [beginO, c, c1, eb, c2]
        rw [e] at hk
        simp
        exact hk lh A0 (Kp.refl _ _)
      | true =>
        obtain ⟨j, rfl, j0, j1⟩ : ∃ j : Int, t = .int j ∧ 0 ≤ j ∧ j < (m.row s).start := by
          cases t with
          | int j => simp [below] at c2; exact ⟨j, rfl, c2.1, c2.2⟩
          | _ => simp [below] at c2
        simp
        subst hB
        refine wSeq_step fun B hB => ?_
        simp
        subst hB
        refine wSeq_step fun B hB => ?_
        simp
        refine ⟨m, p, rfl, A0, rc, ?_⟩
        simp
        have sb : ∀ i ∈ liveL m, Lv m i := fun i hi => ⟨List.mem_range.mp (List.mem_filter.mp hi).1, (List.mem_filter.mp hi).2⟩
        have hlen : (liveL m).length ≤ 10 := by have := List.length_filter_le (fun i => (m.row i).live) (List.range m.rows.length); rw [List.length_range] at this; show ((List.range m.rows.length).filter fun i => (m.row i).live).length ≤ 10; omega
        have tlen : ∀ dn rs : List Nat, liveL m = dn ++ rs → (tkOf m s dn).length ≤ 100 * dn.length := fun dn => by
          intro rs e
          have hm2 : ∀ i ∈ dn, Lv m i := fun i hi => sb i (by rw [e]; exact List.mem_append_left _ hi)
          clear e
          induction dn with
          | nil => exact Nat.le_refl _
          | cons i dn ih =>
            have := ih fun x hx => hm2 x (List.mem_cons_of_mem _ hx)
            have R := Sn.row i (hm2 i (List.mem_cons_self ..)).1 (hm2 i (List.mem_cons_self ..)).2
            have eL := Sn.eL
            have h1 := R.hi
            have h2 := R.st0
            unfold tkOf at this ⊢
            by_cases q : i = s
            · rw [List.filter_cons_of_neg (by simp [q])]; simp only [List.length_cons]; omega
            · rw [List.filter_cons_of_pos (by simp [q])]
              simp only [List.flatMap_cons, List.length_append, List.length_map, List.length_range, List.length_cons]
              omega
        refine forL_run (fun ds ρ h => h = lh ∧ ∃ (dn rs : List Nat) (o5 : Option PyData), liveL m = dn ++ rs ∧ ds = rs.map (fun (i : Nat) => PyData.int (i : Int)) ∧ ρ = [some (rf p.a), some (.int (s : Nat)), some (.int j), some (rf p.es[s]), some (.list ((tkOf m s dn).map PyData.int)), o5, none]) ?_ ?_ ⟨rfl, [], _, none, rfl, rfl, rfl⟩
        · rintro d ds ρ h ⟨rfl, dn, rs, o5, el, e, rfl⟩
          cases rs with
          | nil => cases e
          | cons i rs =>
            simp only [List.map_cons, List.cons.injEq] at e
            obtain ⟨rfl, rfl⟩ := e
            have hli := sb i (by rw [el]; simp)
            have hii : i < p.es.length := by have := hli.1; omega
            have R := Sn.row i hli.1 hli.2
            have eL := Sn.eL
            have h1 := R.hi
            have h2 := R.st0
            have h3 := R.size
            have tl := tlen dn (i :: rs) el
            have dl : dn.length ≤ 10 := by rw [el] at hlen; simp at hlen; omega
            refine ⟨trivial, fun F hF => ?_⟩
            have go := hF _ _ ⟨rfl, dn ++ [i], rs, some (.int (i : Nat)), by rw [el]; simp, rfl, rfl⟩
            by_cases q : i = s
            · have e1 : tkOf m s (dn ++ [i]) = tkOf m s dn := by
                unfold tkOf
                rw [List.filter_append, List.filter_cons_of_neg (by simp [q])]
                simp
              rw [e1] at go
              simp [q] at go ⊢
              exact go
            · have e1 : tkOf m s (dn ++ [i]) = tkOf m s dn ++ (List.range (m.row i).size.toNat).map fun (k : Nat) => (m.row i).start + (k : Int) := by
                unfold tkOf
                rw [List.filter_append, List.filter_cons_of_pos (by simp [q])]
                simp
              rw [e1] at go
              have e2 : ((m.row i).start + (m.row i).size - (m.row i).start).toNat = (m.row i).size.toNat := by omega
              simp [A0.a, lv_lst A0.tbl, atI_es hii, lvK A0 hii, q]
              have e3 : rgD (m.row i).start ((m.row i).start + (m.row i).size) = ((List.range (m.row i).size.toNat).map fun (k : Nat) => (m.row i).start + (k : Int)).map PyData.int := by
                unfold rgD
                rw [e2, List.map_map]; rfl
              refine ⟨by omega, by omega, by omega, by omega, by omega, by rw [rgD_len, e2]; omega, ?_⟩
              rw [e3, ← List.map_append]
              exact go
        · rintro ρ h ⟨rfl, dn, rs, o5, el, e, rfl⟩
          have : rs = [] := by cases rs with | nil => rfl | cons a b => cases e
          subst this
          rw [List.append_nil] at el
          subst el
          refine ⟨trivial, ?_⟩
          have tl := tlen (liveL m) [] (by simp)
          show B _ _ _
          subst hB
          refine wSeq_step fun B hB => ?_
          simp [en]
          have R := Sn.row s hi live
          have eL := Sn.eL
          have h1 := R.hi
          have h2 := R.size
          refine ⟨by omega, by omega, by omega, by omega, ?_⟩
          have er : rgD j (m.row s).start = (List.range ((m.row s).start - j).toNat).map fun (k : Nat) => PyData.int (j + (k : Int)) := rfl
          rw [er]
          refine lcL_map (l := List.range ((m.row s).start - j).toNat) (emb := fun (k : Nat) => PyData.int (j + (k : Int))) (fun k => .bool (decide (j + (k : Int) ∈ tkOf m s (liveL m)))) trivial (by simp; omega) (fun k hk F hF => ?_) ?_
          · simp [qv]
            exact hF
          · refine ⟨_, boolL_mapF _ _, ?_⟩
            have bl := begin_law Sn ⟨hi, live⟩ c1 j0 j1
            rw [er, List.any_map] at bl
            have e4 : ((List.range ((m.row s).start - j).toNat).map fun (k : Nat) => decide (j + (k : Int) ∈ tkOf m s (liveL m))).any id = m.rows.any fun o => o.live && decide (o.start < (m.row s).start) && decide (j < o.start + o.size) := by
              rw [bl, List.any_map]; rfl
            rw [e4]
            have k2 : ∀ b : Bool, (m.rows.any fun o => o.live && decide (o.start < (m.row s).start) && decide (j < o.start + o.size)) = b → beginO m (.int s) (.int j) = if b then (.error .move, m) else (.ok .none, m.put s { m.row s with to := some j, done := 0 }) := fun b hb => by
              simp only [beginO, c, c1, eb, c2, numI]
              simp only [gt_iff_lt, hb]
              simp
            refine wCond_b (fun hb => ?_) fun hb => ?_
            · rw [k2 _ hb] at hk
              exact hk _ A0 (Kp.refl _ _)
            · rw [k2 _ hb] at hk
              have := hk _ (A0.putRow s hi' _) (Kp.put (Mp.mem_es hi'))
              subst hB
              simp [en]
              simpa [oD, oI, Mm.Row.ds] using this
end
end K15
set_option Elab.async false
set_option linter.all false
set_option maxRecDepth 100000
set_option maxHeartbeats 4000000
set_option synthInstance.maxHeartbeats 1000000
set_option synthInstance.maxSize 1000000
namespace K15
open PySem PySem.Spec PyProof.Rows L2 Evl Pd Wl Mm
section
variable {P : Program} {w : World} {K : PySem.W.Frag} {mg : Str → Option Value} {base : Heap}
def D_lreserve (ds : List PyData) (h : Lh) (P : Wv) : Prop := ∃ m p s, ds = [rf p.a, .int s] ∧ LmK m p h ∧ Snd m ∧ GoL p h (reserveO m s) P
abbrev deadL (m : Mem) : List Nat := (List.range m.rows.length).filter fun i => !(m.row i).live
theorem dead_list (m : Mem) : (deadL m)[0]? = dead m := by
  have e : ∀ n, n ≤ m.rows.length → ((m.rows.take n).findIdx? fun r => !r.live) = ((List.range n).filter fun i => !(m.row i).live).head? := by
    intro n hn
    induction n with
    | zero => rfl
    | succ n ih =>
      have hr : m.rows.take (n + 1) = m.rows.take n ++ [m.row n] := by
        rw [List.take_succ_eq_append_getElem (by omega)]
        simp [Mem.row, List.getD, show n < m.rows.length by omega]
      rw [hr, List.findIdx?_append, ih (by omega), List.range_succ, List.filter_append, List.head?_append]
      cases c : ((List.range n).filter fun i => !(m.row i).live).head? with
      | some x => rfl
      | none =>
        have ln : (m.rows.take n).length = n := by rw [List.length_take]; omega
        cases q : (m.row n).live <;> simp [q, ln, List.findIdx?_cons]
  have := e m.rows.length (Nat.le_refl _)
  rw [List.take_length] at this
  rw [← List.head?_eq_getElem?]
  exact this.symm
theorem live_dead (m : Mem) : liveN m + (deadL m).length = m.rows.length := by
  rw [← liveN_range]
  have : ∀ l : List Nat, (l.filter fun i => (m.row i).live).length + (l.filter fun i => !(m.row i).live).length = l.length := fun l => by
    induction l with
    | nil => rfl
    | cons a l ih => cases q : (m.row a).live <;> simp [q] <;> omega
  have := this (List.range m.rows.length)
  rw [List.length_range] at this
  exact this
theorem fits_iff (m : Mem) (s : Int) : fits m s = (decide (m.e + s ≤ (m.ar.length : Nat)) && !decide ((deadL m).length = 0)) := by
  unfold fits
  have := live_dead m
  congr 1
  by_cases c : (deadL m).length = 0
  · rw [decide_eq_true c, decide_eq_false (by omega)]; rfl
  · rw [decide_eq_false c, decide_eq_true (by omega)]; rfl
theorem cal_lreserve (S : Src K mg "_law_reserve" st__law_reserve ["model", "size"]) (T : Txt K mg) : Cal P w K mg base CX0 1 "_law_reserve" ["model", "size"] (SpW K D_lreserve) := by
  have sc := sc__law_reserve
  refine S.cal (k := 0) sc (SpW.len fun ds h P z => by obtain ⟨_, _, _, rfl, _⟩ := z; rfl) (fun f cdv A outer s H vs Q E hr h => ⟨_, (pss_cons (ps_setLc (i := 2) (own := [("slot", 4)]) rfl sc.nd rfl rfl (sw_true rfl rfl rfl (by decide +kernel)) (pi_range1 (by rfl) T.n_range (pa_cons (pe_callB (k_len_seq (K := K) rfl) (by rfl) T.n_len PySem.boot_len (pa_cons (pe_dget (hu_of hr) (pv 0) pe_str (fun _ _ => rfl)) pa_nil)) pa_nil)) (blkOk_by (by first | decide +kernel | kernel_rfl)) (fun _ _ _ _ _ => (pg_name (i := 4) sc.nd rfl (by first | exact Or.inl rfl | exact Or.inr rfl))) (fun _ _ _ _ _ => (pts_one (pt_not (pt_val (pe_ix (k_ix_list (K := K) rfl) (pe_ix (k_ix_list (K := K) rfl) (pe_dget (hu_of hr) (pv 0) pe_str (fun _ _ => rfl)) (pv 4) (fun _ _ => rfl)) pe_int (fun _ _ => rfl)))))) (fun _ _ _ _ _ => (pv 4)))
  (pss_cons (ps_if (PW.pt (pw_or (pt_cmpR op_eq (pe_callB (k_len_seq (K := K) rfl) (by rfl) T.n_len PySem.boot_len (pa_cons (pv 2) pa_nil)) pe_int (nomark _)) (pw_or1 (pt_cmpR op_gt (pe_op op_add (pe_dget (hu_of hr) (pv 0) pe_str (fun _ _ => rfl)) (pv 1)) (pe_callB (k_len_seq (K := K) rfl) (by rfl) T.n_len PySem.boot_len (pa_cons (pe_dget (hu_of hr) (pv 0) pe_str (fun _ _ => rfl)) pa_nil)) (nomark _))))) (pss_one (ps_ret pe_str)) pss_nil)
  (pss_cons (ps_set (i := 3) sc.nd rfl (by first | exact Or.inl rfl | exact Or.inr rfl) (pe_ix (k_ix_list (K := K) rfl) (pe_dget (hu_of hr) (pv 0) pe_str (fun _ _ => rfl)) (pe_ix (k_ix_list (K := K) rfl) (pv 2) pe_int (fun _ _ => rfl)) (fun _ _ => rfl)))
  (pss_cons (ps_asg (pe_lst (pa_cons pe_bl (pa_cons (pv 1) (pa_cons (pe_dget (hu_of hr) (pv 0) pe_str (fun _ _ => rfl)) (pa_cons pe_int (pa_cons pe_non (pa_cons pe_int (pa_cons pe_int (pa_cons pe_bl pa_nil))))))))) (pg_sl0 (pv 3) pe_int))
  (pss_cons (ps_dput (hu_of hr) (pv 0) pe_str (pe_op op_add (pe_dget (hu_of hr) (pv 0) pe_str (fun _ _ => rfl)) (pv 1)) rfl)
  (pss_one (ps_ret (pe_tup (pa_cons (pe_ix (k_ix_list (K := K) rfl) (pv 2) pe_int (fun _ _ => rfl)) (pa_cons (pe_ix (k_ix_list (K := K) rfl) (pv 3) pe_int (fun _ _ => rfl)) pa_nil)))))))))), h.enter fun ds lh P hD => ?_⟩)
  obtain ⟨m, p, s, rfl, A0, Sn, hk⟩ := hD
  have hl := A0.len
  have rc := Sn.rc
  refine wSeq_step fun B hB => ?_
  simp [A0.a, qv_lst A0.tbl]
  have er : rgD 0 ((p.es.length : Nat) : Int) = (List.range m.rows.length).map fun (j : Nat) => .int (j : Int) := by simp [rgD, hl]
  rw [er]
  refine ⟨by omega, lcL_filter (l := List.range m.rows.length) (emb := fun (i : Nat) => PyData.int (i : Int)) (fun i => !(m.row i).live) (fun (i : Nat) => .int (i : Int)) trivial (by simp; omega) (fun i hi F F0 h1 h2 => ?_) ?_⟩
  · have hi' : i < p.es.length := by have := List.mem_range.mp hi; omega
    simp [A0.a, lv_lst A0.tbl, atI_es hi', lvK A0 hi']
    refine wCond_b (fun q => h2 (by simp [q])) fun q => h1 (by simp [q])
  · have dl := dead_list m
    have lt := fits_iff m s
    have dlt : ∀ i ∈ deadL m, i < p.es.length := fun i hi => by have := List.mem_range.mp (List.mem_filter.mp hi).1; omega
    rw [show ((List.range m.rows.length).filter fun i => !(m.row i).live) = deadL m from rfl]
    show B _ _ _
    generalize deadL m = L at dl lt dlt
    subst hB
    refine wSeq_step fun B hB => ?_
    simp [qv, Wl.lv, A0.a, A0.arr]
    refine wCond_b (fun c => ?_) fun c => ?_
    · have hf : fits m s = false := by
        rw [lt]
        simp at c
        rcases c with c | c
        · rw [c]; simp
        · rw [decide_eq_false (by omega)]; rfl
      have e : reserveO m s = (.error .room, m) := by simp [reserveO, hf]
      rw [e] at hk
      exact hk _ A0 (Kp.refl _ _)
    · simp at c
      obtain ⟨c1, c2⟩ := c
      cases L with
      | nil => exact absurd rfl c1
      | cons i L =>
        have hi' := dlt i (List.mem_cons_self ..)
        have hi : i < m.rows.length := by omega
        have hf : fits m s = true := by
          rw [lt, decide_eq_true (by omega)]; simp
        have hd : dead m = some i := dl.symm
        have e : reserveO m s = (.ok (.tuple [.int (i : Nat), .int (m.row i).stamp]), { (m.put i ⟨(m.row i).stamp, true, s, m.e, 0, none, 0, 0, false⟩) with e := m.e + s }) := by simp [reserveO, hf, hd]
        rw [e] at hk
        have en := A0.en i hi'
        have ne := A0.ne_es hi'
        have := hk _ ((A0.putRow i hi' ⟨(m.row i).stamp, true, s, m.e, 0, none, 0, 0, false⟩).putE (m.e + s)) ((Kp.put (Mp.mem_es hi')).put2 (Mp.mem_a p))
        subst hB
        refine wSeq_step fun B hB => ?_
        simp [A0.a, lv_lst A0.tbl, atI_es hi']
        subst hB
        refine wSeq_step fun B hB => ?_
        simp [A0.a]
        refine ⟨1, rfl, _, en, by simp, by simp, ?_⟩
        rw [show List.take 1 (m.row i).ds ++ [PyData.bool true, PyData.int s, PyData.int m.e, PyData.int 0, PyData.none, PyData.int 0, PyData.int 0, PyData.bool false] = Mm.Row.ds ⟨(m.row i).stamp, true, s, m.e, 0, none, 0, 0, false⟩ from rfl]
        have u1 : up lh p.es[i] (.lst (Mm.Row.ds ⟨(m.row i).stamp, true, s, m.e, 0, none, 0, 0, false⟩)) p.a = some (mL p m.e) := by rw [up_ne ne.1]; exact A0.a
        subst hB
        simp [u1, up_ne ne.1.symm]
        simpa [oD] using this
def D_lmodel (ds : List PyData) (h : Lh) (P : Wv) : Prop := ∃ c s : Nat, ds = [.int c, .int s] ∧ c ≤ 1000 ∧ s ≤ 1000 ∧ ∀ p h', LmK (mem0 c s) p h' → Gp [] h p.F h' → P (rf p.a) h'
theorem cal_lmodel (S : Src K mg "_law_model" st__law_model ["cells", "slots"]) (T : Txt K mg) : Cal P w K mg base CX0 1 "_law_model" ["cells", "slots"] (SpW K D_lmodel) := by
  have sc := sc__law_model
  refine S.cal (k := 0) sc (SpW.len fun ds h P z => by obtain ⟨_, _, rfl, _⟩ := z; rfl) (fun f cdv A outer s H vs Q E hr h => ⟨_, (pss_one (ps_ret (pe_disp (pps_cons pe_str (pe_ref (pe_op op_rep (pe_lst (pa_cons pe_non pa_nil)) (pv 0))) (pps_cons pe_str (pe_ref (pe_lc (own := [("k", 2)]) rfl sc.nd (pi_range1 (by rfl) T.n_range (pa_cons (pv 1) pa_nil)) (blkOk_by (by first | decide +kernel | kernel_rfl)) (fun _ _ _ _ _ => (pg_name (i := 2) sc.nd rfl (by first | exact Or.inl rfl | exact Or.inr rfl))) (fun _ _ _ _ _ => pts_nil) (fun _ _ _ _ _ => (pe_ref (pe_lst (pa_cons pe_int (pa_cons pe_bl (pa_cons pe_int (pa_cons pe_int (pa_cons pe_int (pa_cons pe_non (pa_cons pe_int (pa_cons pe_int (pa_cons pe_bl pa_nil)))))))))))))) (pps_cons pe_str pe_int pps_nil))) rfl rfl (by intro h; cases h) (by decide)))), h.enter fun ds lh P hD => ?_⟩)
  obtain ⟨c, s, rfl, c1, s1, hk⟩ := hD
  simp
  refine ⟨by omega, by omega, fun q hq => ⟨by omega, ?_⟩⟩
  have t1 := (Tk.nil lh).new (u := .lst (List.replicate c .none)) hq
  refine lcL_run (fun ds acc h => ∃ es : List Addr, acc = es.map (fun x => rf x) ∧ ds.length + es.length = s ∧ Tk [] lh ([ceR q (.lst (List.replicate c .none))] ++ es.map fun x => ceR x (.lst (Mm.Row.ds default))) h) ?_ ?_ ⟨[], rfl, by simp [rgD], by simpa using t1⟩
  · rintro d ds acc h ⟨es, rfl, hlen, tk⟩
    simp at hlen
    refine ⟨trivial, by simp; omega, fun F hF => ?_⟩
    simp
    intro y hy
    have t2 := (tk.new (u := .lst (Mm.Row.ds default)) hy)
    have := hF (es.map (fun x => rf x) ++ [rf y]) _ ⟨es ++ [y], by simp, by simp; omega, by simpa using t2⟩
    exact this
  · rintro acc h ⟨es, rfl, hlen, tk⟩
    refine ⟨trivial, fun t _ ht a _ ha => ?_⟩
    have he : es.length = s := by simpa using hlen
    have t4 := (tk.new (u := .lst (es.map fun x => rf x)) ht).new (u := mL ⟨a, q, t, es⟩ 0) ha
    have ec : (([ceR q (.lst (List.replicate c .none))] ++ es.map fun x => ceR x (.lst (Mm.Row.ds default))) ++ [ceR t (.lst (es.map fun x => rf x))] ++ [ceR a (mL ⟨a, q, t, es⟩ 0)]).Perm (cellsL (mem0 c s) ⟨a, q, t, es⟩) := by
      have e2 : ((List.range es.length).map fun i => ceR (es.getD i 0) (.lst ((mem0 c s).row i).ds)) = es.map fun x => ceR x (.lst (Mm.Row.ds default)) := by
        conv => rhs; rw [← Mm.range_getD es, List.map_map]
        refine List.map_congr_left fun i hi => ?_
        have : i < s := by have := List.mem_range.mp hi; omega
        simp [mem0, Mem.row, List.getD, this]
      unfold cellsL
      rw [e2]
      refine (List.perm_append_singleton _ _).trans (List.Perm.cons _ ?_)
      refine List.Perm.cons _ ?_
      exact List.perm_append_singleton _ _
    have t5 := t4.perm ec
    exact hk ⟨a, q, t, es⟩ _ ⟨t5.at_, by simp [mem0, he]⟩ (by have := t5.gp; rwa [Fs_cellsL] at this)
end
end K15
set_option Elab.async false
set_option linter.all false
set_option maxRecDepth 100000
set_option maxHeartbeats 1000000
namespace K15
open PySem PySem.Spec PyProof.Rows L2 Evl Pd Wl Mm
/-- what always holds of the memories of the laws -/
structure MOk (m : Mem) : Prop where
  snd : Snd m
  st : ∀ i, 0 ≤ (m.row i).stamp
  vals : ∀ d ∈ m.ar, isVal d = true
  c100 : m.ar.length ≤ 100
  r10 : m.rows.length ≤ 10
inductive CK | reserve | fill | write | read | free | begin_ | copy | turn | settle
  deriving DecidableEq
def nm : CK → Str
  | .reserve => "reserve" | .fill => "fill" | .write => "write" | .read => "read" | .free => "free" | .begin_ => "begin" | .copy => "copy" | .turn => "turn" | .settle => "settle"
/-- a call with what is handed over -/
structure Ca where
  k : CK
  a : PyData
  b : PyData
  c : PyData
def Ca.ds (x : Ca) : List PyData := [.str (nm x.k), x.a, x.b, x.c]
structure CaOk (x : Ca) : Prop where
  a : Nr2 x.a
  b : Nr x.b
  c : Nr2 x.c
  res : x.k = .reserve → ∃ s : Int, x.a = .int s ∧ 1 ≤ s ∧ s ≤ 1000
def doO (m : Mem) (x : Ca) : Out := match x.k with
  | .reserve => reserveO m (numI x.a)
  | .fill => fillO m x.a
  | .write => writeO m x.a x.b x.c
  | .read => readO m x.a x.b
  | .free => freeO m x.a
  | .begin_ => beginO m x.a x.b
  | .copy => copyO m x.a
  | .turn => turnO m x.a
  | .settle => settleO m x.a
/-- no text, no reference -/
def Pl (d : PyData) : Prop := Nr d ∧ ∀ s, d ≠ .str s
theorem Pl.val {d : PyData} (h : isVal d = true) : Pl d := by
  cases d with
  | dict k => simp [isVal, isHdl] at h
  | str s => simp [isVal, isHdl] at h
  | _ => exact ⟨trivial, fun s z => nomatch z⟩
theorem peekV {m : Mem} (hv : ∀ d ∈ m.ar, isVal d = true) (k : Int) : isVal (m.peek k) = true := by
  unfold Mem.peek
  by_cases c : k.toNat < m.ar.length
  · simp only [List.getD, List.getElem?_eq_getElem c, Option.getD_some]
    exact hv _ (List.getElem_mem c)
  · simp only [List.getD, List.getElem?_eq_none (Nat.le_of_not_lt c), Option.getD_none]
    rfl
theorem putRow {m : Mem} {i : Nat} {r : Mm.Row} (hi : i < m.rows.length) (j : Nat) : (m.put i r).row j = if j = i then r else m.row j := by
  by_cases c : j = i
  · subst c; rw [if_pos rfl, row_put_eq hi]
  · rw [if_neg c, row_put_ne (Ne.symm c)]
theorem pokeV {m : Mem} {a : Int} {v : PyData} (hv : isVal v = true) (h : ∀ d ∈ m.ar, isVal d = true) : ∀ d ∈ (m.poke a v).ar, isVal d = true := fun d hd => by
  rcases List.mem_or_eq_of_mem_set hd with h1 | h1
  · exact h d h1
  · rw [h1]; exact hv
/-- how the state goes on -/
inductive Stp (m : Mem) : Mem → Prop
  | same : Stp m m
  | mk {m' : Mem} : MOk m' → m'.rows.length = m.rows.length → m'.ar.length = m.ar.length → Stp m m'
theorem put_ok {m m1 : Mem} (O : MOk m) {i : Nat} {r : Mm.Row} (hi : i < m.rows.length) (S : Snd (m1.put i r)) (hr : m1.rows = m.rows) (hs : (m.row i).stamp ≤ r.stamp) (hv : ∀ d ∈ m1.ar, isVal d = true) (al : m1.ar.length = m.ar.length) : MOk (m1.put i r) ∧ (m1.put i r).rows.length = m.rows.length ∧ (m1.put i r).ar.length = m.ar.length := by
  have e : ∀ j, m1.row j = m.row j := fun j => by unfold Mem.row; rw [hr]
  refine ⟨⟨S, fun j => ?_, hv, by rw [put_ar, al]; exact O.c100, by rw [put_rows, hr]; exact O.r10⟩, by rw [put_rows, hr], al⟩
  rw [putRow (by rw [hr]; exact hi), e]
  have := O.st i
  split
  · omega
  · exact O.st j
theorem doO_ok {m : Mem} (O : MOk m) {x : Ca} (hx : CaOk x) : MOk (doO m x).2 ∧ (doO m x).2.rows.length = m.rows.length ∧ (doO m x).2.ar.length = m.ar.length ∧ ∀ v, (doO m x).1 = .ok v → Pl v := by
  have S := O.snd
  have err : ∀ b : Bad, MOk ((.error b, m) : Out).2 ∧ ((.error b, m) : Out).2.rows.length = m.rows.length ∧ ((.error b, m) : Out).2.ar.length = m.ar.length ∧ ∀ v, ((.error b, m) : Out).1 = .ok v → Pl v := fun b => ⟨O, rfl, rfl, fun v z => nomatch z⟩
  unfold doO
  cases hk : x.k with
  | reserve =>
    obtain ⟨s, hs, s1, s2⟩ := hx.res hk
    simp only [hs, numI]
    unfold reserveO
    split
    · next hf =>
      split
      · next i hd =>
        obtain ⟨hi, hl⟩ := dead_some hd
        simp [fits] at hf
        have K := reserve_kept S hi hl s1 hf.1 (m.row i).stamp 0 false
        have hp := putRow (r := ⟨(m.row i).stamp, true, s, m.e, 0, none, 0, 0, false⟩) hi
        refine ⟨⟨K.snd, fun j => ?_, O.vals, O.c100, by rw [K.rl]; exact O.r10⟩, K.rl, K.al, fun v z => by cases z; exact ⟨trivial, fun s z => nomatch z⟩⟩
        show 0 ≤ ((m.put i _).row j).stamp
        rw [hp]
        split
        · exact O.st i
        · exact O.st j
      · exact err _
    · exact err _
  | fill =>
    simp only
    unfold fillO
    split
    · exact err _
    · next i hi =>
      obtain ⟨_, h1, h2, _⟩ := atHdl_lt hi
      simp only
      split
      · exact err _
      · next c =>
        obtain ⟨a, b, c⟩ := put_ok O h1 (fill_kept S ⟨h1, h2⟩ c (Mm.spot (m.row i) (m.row i).filled) .none).snd rfl (Int.le_refl _) (pokeV rfl O.vals) poke_len
        exact ⟨a, b, c, fun v z => by cases z; exact ⟨trivial, fun s z => nomatch z⟩⟩
  | write =>
    simp only
    unfold writeO
    split
    · exact err _
    · next i hi =>
      simp only
      split
      · split
        · next c =>
          exact ⟨⟨S.poke _ _, O.st, pokeV c O.vals, by rw [poke_len]; exact O.c100, O.r10⟩, rfl, poke_len, fun v z => by cases z; exact Pl.val (peekV O.vals _)⟩
        · exact err _
      · exact err _
  | read =>
    simp only
    unfold readO
    split
    · exact err _
    · simp only
      split
      · refine ⟨O, rfl, rfl, fun v z => ?_⟩
        cases z
        split
        · exact Pl.val (peekV O.vals _)
        · exact Pl.val rfl
      · exact err _
  | free =>
    simp only
    unfold freeO
    split
    · exact err _
    · next i hi =>
      obtain ⟨_, h1, h2⟩ := atSlot_lt' hi
      simp only
      split
      · exact err _
      · obtain ⟨a, b, c⟩ := put_ok O h1 (free_kept S ⟨h1, h2⟩ ((m.row i).stamp + 1)).snd rfl (show (m.row i).stamp ≤ (m.row i).stamp + 1 by omega) O.vals rfl
        exact ⟨a, b, c, fun v z => by cases z; exact ⟨trivial, fun s z => nomatch z⟩⟩
  | begin_ =>
    simp only
    unfold beginO
    split
    · exact err _
    · next i hi =>
      obtain ⟨_, h1, h2⟩ := atSlot_lt' hi
      simp only
      split
      · exact err _
      · next c1 =>
        split
        · exact err _
        · next c2 =>
          simp only [Bool.or_eq_true, not_or, Bool.not_eq_true, Bool.not_eq_eq_eq_not, Bool.not_false] at c1
          obtain ⟨c1, c3⟩ := c1
          have hm : mover m = none := by cases q : mover m with | none => rfl | some j => rw [q] at c1; cases c1
          obtain ⟨t, ht, t0, t1⟩ : ∃ t : Int, x.b = .int t ∧ 0 ≤ t ∧ t < (m.row i).start := by
            cases hb : x.b with
            | int t => rw [hb] at c3; simp [isTo] at c3; exact ⟨t, rfl, c3.1, c3.2⟩
            | _ => rw [hb] at c3; simp [isTo] at c3
          rw [ht] at c2 ⊢
          obtain ⟨a, b, c⟩ := put_ok O h1 (begin_kept S ⟨h1, h2⟩ hm t0 t1 fun j hj hjs => by
            have := any_no (Bool.eq_false_iff.mpr c2) hj.1
            simp [hj.2, hjs, numI] at this
            exact this).snd rfl (Int.le_refl _) O.vals rfl
          exact ⟨a, b, c, fun v z => by cases z; exact ⟨trivial, fun s z => nomatch z⟩⟩
  | copy =>
    simp only
    unfold copyO
    split
    · exact err _
    · next i hi =>
      obtain ⟨_, h1, h2⟩ := atSlot_lt' hi
      simp only
      split
      · exact err _
      · next t ht =>
        split
        · exact err _
        · next c =>
          obtain ⟨a, b, c⟩ := put_ok O h1 (copy_kept S ⟨h1, h2⟩ ht c (t + (m.row i).done) (m.peek ((m.row i).start + (m.row i).done))).snd rfl (Int.le_refl _) (pokeV (peekV O.vals _) O.vals) poke_len
          exact ⟨a, b, c, fun v z => by cases z; exact ⟨trivial, fun s z => nomatch z⟩⟩
  | turn =>
    simp only
    unfold turnO
    split
    · exact err _
    · next i hi =>
      obtain ⟨_, h1, h2⟩ := atSlot_lt' hi
      simp only
      split
      · exact err _
      · next t ht =>
        split
        · exact err _
        · next c =>
          obtain ⟨a, b, c⟩ := put_ok O h1 (turn_kept S ⟨h1, h2⟩ ht).snd rfl (Int.le_refl _) O.vals rfl
          exact ⟨a, b, c, fun v z => by cases z; exact ⟨trivial, fun s z => nomatch z⟩⟩
  | settle =>
    simp only
    unfold settleO
    split
    · exact err _
    · next c1 =>
      split
      · exact err _
      · next c2 =>
        simp only [Bool.or_eq_true, not_or, Bool.not_eq_true, Bool.not_eq_eq_eq_not, Bool.not_false] at c1
        obtain ⟨c1, c3⟩ := c1
        have hm : mover m = none := by cases q : mover m with | none => rfl | some j => rw [q] at c1; cases c1
        obtain ⟨t, ht, t0, t1⟩ : ∃ t : Int, x.a = .int t ∧ 0 ≤ t ∧ t < m.e + 1 := by
          cases hb : x.a with
          | int t => rw [hb] at c3; simp [below] at c3; exact ⟨t, rfl, c3.1, c3.2⟩
          | _ => rw [hb] at c3; simp [below] at c3
        rw [ht] at c2 ⊢
        have K := settle_kept S t0 (by omega) hm fun j hj => by
          have := any_no (Bool.eq_false_iff.mpr c2) hj.1
          simp [hj.2, numI] at this
          exact this
        exact ⟨⟨K.snd, O.st, O.vals, O.c100, O.r10⟩, rfl, rfl, fun v z => by cases z; exact ⟨trivial, fun s z => nomatch z⟩⟩
end K15
set_option Elab.async false
set_option linter.all false
set_option maxRecDepth 100000
set_option maxHeartbeats 4000000
set_option synthInstance.maxHeartbeats 1000000
set_option synthInstance.maxSize 1000000
namespace K15
open PySem PySem.Spec PyProof.Rows L2 Evl Pd Wl Mm
def wD : Except Bad PyData → PyData
  | .ok v => v
  | .error b => .tuple [.str "refused", .str (bw b)]
section
variable {P : Program} {w : World} {K : PySem.W.Frag} {mg : Str → Option Value} {base : Heap}
theorem cal_none {x : Str} {st : Stmt} {ps : List Str} {CX : CXT} {k : Nat} {D : List PyData → Lh → Wv → Prop} (S : Src K mg x st ps) (hD : ∀ ds h P, ¬ D ds h P) : Cal P w K mg base CX k x ps (SpW K D) := by
  obtain ⟨f, fd, hm, hF, hb⟩ := S.ex
  exact ⟨f, fd, hm, hF.kp, hb, ⟨fun _ _ _ _ ⟨_, _, _, _, _, _, _, h, _⟩ => (hD _ _ _ h).elim, fun _ _ _ _ _ _ _ _ _ _ _ _ _ ⟨_, _, _, _, _, _, _, h, _⟩ => (hD _ _ _ h).elim⟩⟩
def D_no (ds : List PyData) (h : Lh) (P : Wv) : Prop := False
def D_worded (ds : List PyData) (h : Lh) (P : Wv) : Prop := ∃ r, ds = [oD r] ∧ (∀ v, r = .ok v → Pl v) ∧ P (wD r) h
theorem cal_worded (S : Src K mg "_law_worded" st__law_worded ["found"]) (T : Txt K mg) : Cal P w K mg base CX0 1 "_law_worded" ["found"] (SpW K D_worded) := by
  have sc := sc__law_worded
  refine S.cal (k := 0) sc (SpW.len fun ds h P z => by obtain ⟨_, rfl, _⟩ := z; rfl) (fun f cdv A outer s H vs Q E hr h => ⟨_, (pss_one (ps_ret (pe_ifExp (pt_val (pe_callB (k_isi (K := K) rfl) (by rfl) T.n_isinstance (by decide +kernel) (pa_cons (pv 0) (pa_cons (pe_bltn (v := .ty "str") (by rfl) T.n_str (by decide +kernel) rfl) pa_nil)))) (pe_tup (pa_cons pe_str (pa_cons (pv 0) pa_nil))) (pv 0)))), h.enter fun ds lh P hD => ?_⟩)
  obtain ⟨r, rfl, hr, hk⟩ := hD
  cases r with
  | error b => simp [oD]; exact hk
  | ok v =>
    obtain ⟨nv, ns⟩ := hr v rfl
    simp only [oD, wD] at hk ⊢
    cases v with
    | dict k => exact nv.elim
    | str s => exact (ns s rfl).elim
    | _ => simpa using hk
def D_due (ds : List PyData) (h : Lh) (P : Wv) : Prop := ∃ m p x, ds = [.str (nm x.k), rf p.a, x.a, x.b, x.c] ∧ LmK m p h ∧ MOk m ∧ CaOk x ∧ ∀ h', LmK (doO m x).2 p h' → Kp p.F h h' → P (wD (doO m x).1) h'
theorem cal_due (S : Src K mg "_law_due" st__law_due ["call", "model", "one", "other", "third"]) (T : Txt K mg) (C__law_worded : Cal P w K mg base CX0 1 "_law_worded" ["found"] (SpW K D_worded)) (C__law_reserve : Cal P w K mg base CX0 1 "_law_reserve" ["model", "size"] (SpW K D_lreserve)) (C__law_fill : Cal P w K mg base CX0 3 "_law_fill" ["model", "handle"] (SpW K D_lfill)) (C__law_read : Cal P w K mg base CX0 3 "_law_read" ["model", "handle", "k"] (SpW K D_lread)) (C__law_write : Cal P w K mg base CX0 4 "_law_write" ["model", "handle", "k", "value"] (SpW K D_lwrite))
    (C__law_place : Cal P w K mg base CX0 1 "_law_place" ["model", "handle", "k"] (SpW K D_no)) (C__law_free : Cal P w K mg base CX0 2 "_law_free" ["model", "slot"] (SpW K D_lfree)) (C__law_begin : Cal P w K mg base CX0 3 "_law_begin" ["model", "slot", "to"] (SpW K D_lbegin)) (C__law_copy : Cal P w K mg base CX0 2 "_law_copy" ["model", "slot"] (SpW K D_lcopy)) (C__law_turn : Cal P w K mg base CX0 2 "_law_turn" ["model", "slot"] (SpW K D_lturn)) (C__law_settle : Cal P w K mg base CX0 3 "_law_settle" ["model", "frontier"] (SpW K D_lsettle)) : Cal P w K mg base CX0 5 "_law_due" ["call", "model", "one", "other", "third"] (SpW K D_due) := by
  have sc := sc__law_due
  refine S.cal (k := 4) sc (SpW.len fun ds h P z => by obtain ⟨_, _, _, rfl, _⟩ := z; rfl) (fun f cdv A outer s H vs Q E hr h => ⟨_, (pss_cons (ps_if (pt_cmpR op_eq (pv 0) pe_str (nomark _)) (pss_one (ps_ret (pe_cal C__law_worded (hr.mono (by first | decide | omega)) rfl pass0 (pa_cons (pe_cal C__law_reserve (hr.mono (by first | decide | omega)) rfl pass0 (pa_cons (pv 1) (pa_cons (pv 2) pa_nil))) pa_nil)))) pss_nil)
  (pss_cons (ps_if (pt_cmpR op_eq (pv 0) pe_str (nomark _)) (pss_one (ps_ret (pe_cal C__law_worded (hr.mono (by first | decide | omega)) rfl pass0 (pa_cons (pe_cal C__law_fill (hr.mono (by first | decide | omega)) rfl pass0 (pa_cons (pv 1) (pa_cons (pv 2) pa_nil))) pa_nil)))) pss_nil)
  (pss_cons (ps_if (pt_cmpR op_eq (pv 0) pe_str (nomark _)) (pss_one (ps_ret (pe_cal C__law_worded (hr.mono (by first | decide | omega)) rfl pass0 (pa_cons (pe_cal C__law_read (hr.mono (by first | decide | omega)) rfl pass0 (pa_cons (pv 1) (pa_cons (pv 2) (pa_cons (pv 3) pa_nil)))) pa_nil)))) pss_nil)
  (pss_cons (ps_if (pt_cmpR op_eq (pv 0) pe_str (nomark _)) (pss_one (ps_ret (pe_cal C__law_worded (hr.mono (by first | decide | omega)) rfl pass0 (pa_cons (pe_cal C__law_write (hr.mono (by first | decide | omega)) rfl pass0 (pa_cons (pv 1) (pa_cons (pv 2) (pa_cons (pv 3) (pa_cons (pv 4) pa_nil))))) pa_nil)))) pss_nil)
  (pss_cons (ps_if (pt_cmpR op_eq (pv 0) pe_str (nomark _)) (pss_one (ps_ret (pe_cal C__law_worded (hr.mono (by first | decide | omega)) rfl pass0 (pa_cons (pe_cal C__law_place (hr.mono (by first | decide | omega)) rfl pass0 (pa_cons (pv 1) (pa_cons (pv 2) (pa_cons (pv 3) pa_nil)))) pa_nil)))) pss_nil)
  (pss_cons (ps_if (pt_cmpR op_eq (pv 0) pe_str (nomark _)) (pss_one (ps_ret (pe_cal C__law_worded (hr.mono (by first | decide | omega)) rfl pass0 (pa_cons (pe_cal C__law_free (hr.mono (by first | decide | omega)) rfl pass0 (pa_cons (pv 1) (pa_cons (pv 2) pa_nil))) pa_nil)))) pss_nil)
  (pss_cons (ps_if (pt_cmpR op_eq (pv 0) pe_str (nomark _)) (pss_one (ps_ret (pe_cal C__law_worded (hr.mono (by first | decide | omega)) rfl pass0 (pa_cons (pe_cal C__law_begin (hr.mono (by first | decide | omega)) rfl pass0 (pa_cons (pv 1) (pa_cons (pv 2) (pa_cons (pv 3) pa_nil)))) pa_nil)))) pss_nil)
  (pss_cons (ps_if (pt_cmpR op_eq (pv 0) pe_str (nomark _)) (pss_one (ps_ret (pe_cal C__law_worded (hr.mono (by first | decide | omega)) rfl pass0 (pa_cons (pe_cal C__law_copy (hr.mono (by first | decide | omega)) rfl pass0 (pa_cons (pv 1) (pa_cons (pv 2) pa_nil))) pa_nil)))) pss_nil)
  (pss_cons (ps_if (pt_cmpR op_eq (pv 0) pe_str (nomark _)) (pss_one (ps_ret (pe_cal C__law_worded (hr.mono (by first | decide | omega)) rfl pass0 (pa_cons (pe_cal C__law_turn (hr.mono (by first | decide | omega)) rfl pass0 (pa_cons (pv 1) (pa_cons (pv 2) pa_nil))) pa_nil)))) pss_nil)
  (pss_one (ps_ret (pe_cal C__law_worded (hr.mono (by first | decide | omega)) rfl pass0 (pa_cons (pe_cal C__law_settle (hr.mono (by first | decide | omega)) rfl pass0 (pa_cons (pv 1) (pa_cons (pv 2) pa_nil))) pa_nil))))))))))))), h.enter fun ds lh P hD => ?_⟩)
  obtain ⟨m, p, x, rfl, A0, O, hx, hk⟩ := hD
  have ok := (doO_ok O hx).2.2.2
  obtain ⟨k, xa, xb, xc⟩ := x
  have na := hx.a
  have nb := hx.b
  have nc := hx.c
  have go : ∀ {o : Out}, doO m ⟨k, xa, xb, xc⟩ = o → GoL p lh o fun d h1 => D_worded [d] h1 fun d h2 => P d h2 := fun e h' M k' => ⟨_, rfl, by rw [← e]; exact ok, by rw [← e] at M ⊢; exact hk h' M k'⟩
  cases k with
  | reserve =>
    obtain ⟨s, rfl, _, _⟩ := hx.res rfl
    simp [nm]
    exact ⟨m, p, s, rfl, A0, O.snd, go rfl⟩
  | fill =>
    simp [nm]
    exact ⟨m, p, xa, rfl, A0, O.snd, O.st, na, go rfl⟩
  | write =>
    simp [nm]
    exact ⟨m, p, xa, xb, xc, rfl, A0, O.snd, O.st, na, nb, nc, go rfl⟩
  | read =>
    simp [nm]
    exact ⟨m, p, xa, xb, rfl, A0, O.snd, O.st, na, nb, go rfl⟩
  | free =>
    simp [nm]
    exact ⟨m, p, xa, rfl, A0, na.top, go rfl⟩
  | begin_ =>
    simp [nm]
    exact ⟨m, p, xa, xb, rfl, A0, O.snd, O.c100, O.r10, na.top, nb, go rfl⟩
  | copy =>
    simp [nm]
    exact ⟨m, p, xa, rfl, A0, O.snd, na.top, go rfl⟩
  | turn =>
    simp [nm]
    exact ⟨m, p, xa, rfl, A0, na.top, go rfl⟩
  | settle =>
    simp [nm]
    exact ⟨m, p, xa, rfl, A0, O.snd, na.top, go rfl⟩
end
end K15
set_option Elab.async false
set_option linter.all false
set_option maxRecDepth 100000
set_option maxHeartbeats 4000000
set_option synthInstance.maxHeartbeats 1000000
set_option synthInstance.maxSize 1000000
namespace K15
open PySem PySem.Spec PyProof.Rows L2 Evl Pd Wl Mm
/-- none of the classes is another one -/
structure XDif (K : PySem.W.Frag) (x : XA) : Prop where
  hr : PySem.W.exmOne K (.ref x.handle) (.ref x.room) = some false
  cr : PySem.W.exmOne K (.ref x.cell) (.ref x.room) = some false
  ch : PySem.W.exmOne K (.ref x.cell) (.ref x.handle) = some false
  vr : PySem.W.exmOne K (.ref x.value) (.ref x.room) = some false
  vh : PySem.W.exmOne K (.ref x.value) (.ref x.handle) = some false
  vc : PySem.W.exmOne K (.ref x.value) (.ref x.cell) = some false
  mr : PySem.W.exmOne K (.ref x.move) (.ref x.room) = some false
  mh : PySem.W.exmOne K (.ref x.move) (.ref x.handle) = some false
  mc : PySem.W.exmOne K (.ref x.move) (.ref x.cell) = some false
  mv : PySem.W.exmOne K (.ref x.move) (.ref x.value) = some false
section
variable {P : Program} {w : World} {K : PySem.W.Frag} {mg : Str → Option Value} {base : Heap} {C E : Addr} {x : XA}
abbrev refW (t : Str) : WS := wRet (wTup (wCons (wC (.str "refused")) (wCons (wC (.str t)) wNil)))
/-- the clauses -/
abbrev hsT (x : XA) : WHs := [(.ref x.room, refW "room"), (.ref x.handle, refW "handle"), (.ref x.cell, refW "cell"), (.ref x.value, refW "value"), (.ref x.move, refW "move")]
theorem told_x (XD : XDif K x) (XX_NoRoom : XCls K mg "NoRoom" x.room) (XX_BadHandle : XCls K mg "BadHandle" x.handle) (XX_BadCell : XCls K mg "BadCell" x.cell) (XX_BadValue : XCls K mg "BadValue" x.value) (XX_BadMove : XCls K mg "BadMove" x.move) {P : Wv} {E : WEnds} (hE : E.rt = P) {b : Bad} {h : Lh} {ρ : Ev'} (hp : P (wD (.error b)) h) : xMany K E (hsT x) ρ (x.at_ b) [] h := by
  subst hE
  cases b <;> simp [xMany, XA.at_, XX_NoRoom.exm, XX_BadHandle.exm, XX_BadCell.exm, XX_BadValue.exm, XX_BadMove.exm, XD.hr, XD.cr, XD.ch, XD.vr, XD.vh, XD.vc, XD.mr, XD.mh, XD.mc, XD.mv] <;> exact hp
def D_told (C E : Addr) (ds : List PyData) (h : Lh) (P : Wv) : Prop := ∃ m p x, ds = [.str (nm x.k), rf p.a, x.a, x.b, x.c] ∧ MemK C E m p h ∧ MOk m ∧ CaOk x ∧ ∀ h', MemK C E (doO m x).2 p h' → Kp p.F h h' → P (wD (doO m x).1) h'
theorem cal_told (S : Src K mg "_law_told" st__law_told ["call", "memory", "one", "other", "third"]) (T : Txt K mg) (MT : MTxt K C) (XD : XDif K x) (XX_NoRoom : XCls K mg "NoRoom" x.room) (XX_BadHandle : XCls K mg "BadHandle" x.handle) (XX_BadCell : XCls K mg "BadCell" x.cell) (XX_BadValue : XCls K mg "BadValue" x.value) (XX_BadMove : XCls K mg "BadMove" x.move)
    (M_reserve : CalM P w K mg base (L2.CX P w) 3 C "reserve" ["self", "size"] (SpX K (D_reserve C E x))) (M_fill : CalM P w K mg base (L2.CX P w) 6 C "fill" ["self", "handle"] (SpX K (D_fill C E x))) (M_read : CalM P w K mg base (L2.CX P w) 6 C "read" ["self", "handle", "k"] (SpX K (D_read C E x))) (M_write : CalM P w K mg base (L2.CX P w) 6 C "write" ["self", "handle", "k", "value"] (SpX K (D_write C E x))) (M_place : CalM P w K mg base (L2.CX P w) 6 C "place" ["self", "handle", "k"] (SpX K (D_place C E x)))
    (M_free : CalM P w K mg base (L2.CX P w) 4 C "free" ["self", "slot"] (SpX K (D_free C E x))) (M_begin_move : CalM P w K mg base (L2.CX P w) 4 C "begin_move" ["self", "slot", "to"] (SpX K (D_begin C E x))) (M_copy_cell : CalM P w K mg base (L2.CX P w) 4 C "copy_cell" ["self", "slot"] (SpX K (D_copy C E x))) (M_turn : CalM P w K mg base (L2.CX P w) 4 C "turn" ["self", "slot"] (SpX K (D_turn C E x))) (M_settle : CalM P w K mg base (L2.CX P w) 3 C "settle" ["self", "frontier"] (SpX K (D_settle C E x))) : Cal P w K mg base CX0 7 "_law_told" ["call", "memory", "one", "other", "third"] (SpW K (D_told C E)) := by
  have sc := sc__law_told
  refine S.cal (k := 6) sc (SpW.len fun ds h P z => by obtain ⟨_, _, _, rfl, _⟩ := z; rfl) (fun f cdv A outer s H vs Q E0 hr h => ⟨_, (pss_one (k_tryM (K := K) (Wout := fun _ _ _ _ => False) rfl rfl rfl takes0 (fun W pn xe tk po => (pss_cons (ps_if (pt_cmpR op_eq (pv 0) pe_str (nomark _)) (pss_one (ps_ret (pe_calMS M_reserve MT.cl (hr.mono (by first | decide | omega)) tk (pv 1) (pa_cons (pv 2) pa_nil)))) pss_nil)
  (pss_cons (ps_if (pt_cmpR op_eq (pv 0) pe_str (nomark _)) (pss_one (ps_ret (pe_calMS M_fill MT.cl (hr.mono (by first | decide | omega)) tk (pv 1) (pa_cons (pv 2) pa_nil)))) pss_nil)
  (pss_cons (ps_if (pt_cmpR op_eq (pv 0) pe_str (nomark _)) (pss_one (ps_ret (pe_calMS M_read MT.cl (hr.mono (by first | decide | omega)) tk (pv 1) (pa_cons (pv 2) (pa_cons (pv 3) pa_nil))))) pss_nil)
  (pss_cons (ps_if (pt_cmpR op_eq (pv 0) pe_str (nomark _)) (pss_one (ps_ret (pe_calMS M_write MT.cl (hr.mono (by first | decide | omega)) tk (pv 1) (pa_cons (pv 2) (pa_cons (pv 3) (pa_cons (pv 4) pa_nil)))))) pss_nil)
  (pss_cons (ps_if (pt_cmpR op_eq (pv 0) pe_str (nomark _)) (pss_one (ps_ret (pe_calMS M_place MT.cl (hr.mono (by first | decide | omega)) tk (pv 1) (pa_cons (pv 2) (pa_cons (pv 3) pa_nil))))) pss_nil)
  (pss_cons (ps_if (pt_cmpR op_eq (pv 0) pe_str (nomark _)) (pss_one (ps_ret (pe_calMS M_free MT.cl (hr.mono (by first | decide | omega)) tk (pv 1) (pa_cons (pv 2) pa_nil)))) pss_nil)
  (pss_cons (ps_if (pt_cmpR op_eq (pv 0) pe_str (nomark _)) (pss_one (ps_ret (pe_calMS M_begin_move MT.cl (hr.mono (by first | decide | omega)) tk (pv 1) (pa_cons (pv 2) (pa_cons (pv 3) pa_nil))))) pss_nil)
  (pss_cons (ps_if (pt_cmpR op_eq (pv 0) pe_str (nomark _)) (pss_one (ps_ret (pe_calMS M_copy_cell MT.cl (hr.mono (by first | decide | omega)) tk (pv 1) (pa_cons (pv 2) pa_nil)))) pss_nil)
  (pss_cons (ps_if (pt_cmpR op_eq (pv 0) pe_str (nomark _)) (pss_one (ps_ret (pe_calMS M_turn MT.cl (hr.mono (by first | decide | omega)) tk (pv 1) (pa_cons (pv 2) pa_nil)))) pss_nil)
  (pss_one (ps_ret (pe_calMS M_settle MT.cl (hr.mono (by first | decide | omega)) tk (pv 1) (pa_cons (pv 2) pa_nil)))))))))))))) (HdsOk.cons ⟨rfl, by decide, .inl XX_NoRoom.g⟩ (fun a oe cls d pn hz hf => (pss_one (ps_ret (pe_tup (pa_cons pe_str (pa_cons pe_str pa_nil)))))) (HdsOk.cons ⟨rfl, by decide, .inl XX_BadHandle.g⟩ (fun a oe cls d pn hz hf => (pss_one (ps_ret (pe_tup (pa_cons pe_str (pa_cons pe_str pa_nil)))))) (HdsOk.cons ⟨rfl, by decide, .inl XX_BadCell.g⟩ (fun a oe cls d pn hz hf => (pss_one (ps_ret (pe_tup (pa_cons pe_str (pa_cons pe_str pa_nil)))))) (HdsOk.cons ⟨rfl, by decide, .inl XX_BadValue.g⟩ (fun a oe cls d pn hz hf => (pss_one (ps_ret (pe_tup (pa_cons pe_str (pa_cons pe_str pa_nil)))))) (HdsOk.cons ⟨rfl, by decide, .inl XX_BadMove.g⟩ (fun a oe cls d pn hz hf => (pss_one (ps_ret (pe_tup (pa_cons pe_str (pa_cons pe_str pa_nil)))))) HdsOk.nil))))))), h.enter (R := rs_tryM fun W X => inferInstance) fun ds lh P hD => ?_⟩)
  obtain ⟨m, p, y, rfl, A0, O, hx, hk⟩ := hD
  obtain ⟨k, ya, yb, yc⟩ := y
  have na := hx.a
  have nb := hx.b
  have nc := hx.c
  have go : ∀ {o : Out} (ρ : Ev'), doO m ⟨k, ya, yb, yc⟩ = o → Go C E x p lh o P (xMany K { nx := fun x h' => P PyData.none h', rt := P } (hsT x) ρ) := fun {o} ρ e h' M kp => by
    subst e
    have := hk h' M kp
    cases q : (doO m ⟨k, ya, yb, yc⟩).1 with
    | ok v => rw [q] at this; exact this
    | error b => rw [q] at this; exact told_x XD XX_NoRoom XX_BadHandle XX_BadCell XX_BadValue XX_BadMove rfl this
  cases k with
  | reserve =>
    obtain ⟨s, rfl, _, _⟩ := hx.res rfl
    simp [nm, A0.a, MT.cl]
    exact ⟨m, p, s, rfl, A0, O.snd, go _ rfl⟩
  | fill =>
    simp [nm, A0.a, MT.cl]
    exact ⟨m, p, ya, rfl, A0, O.snd, na, go _ rfl⟩
  | write =>
    simp [nm, A0.a, MT.cl]
    exact ⟨m, p, ya, yb, yc, rfl, A0, O.snd, na, nb, nc, go _ rfl⟩
  | read =>
    simp [nm, A0.a, MT.cl]
    exact ⟨m, p, ya, yb, rfl, A0, O.snd, na, nb, go _ rfl⟩
  | free =>
    simp [nm, A0.a, MT.cl]
    exact ⟨m, p, ya, rfl, A0, O.snd, na.top, go _ rfl⟩
  | begin_ =>
    simp [nm, A0.a, MT.cl]
    exact ⟨m, p, ya, yb, rfl, A0, O.snd, na.top, nb, go _ rfl⟩
  | copy =>
    simp [nm, A0.a, MT.cl]
    exact ⟨m, p, ya, rfl, A0, O.snd, na.top, go _ rfl⟩
  | turn =>
    simp [nm, A0.a, MT.cl]
    exact ⟨m, p, ya, rfl, A0, O.snd, na.top, go _ rfl⟩
  | settle =>
    simp [nm, A0.a, MT.cl]
    exact ⟨m, p, ya, rfl, A0, O.snd, na.top, go _ rfl⟩
end
end K15
set_option Elab.async false
set_option linter.all false
set_option maxRecDepth 100000
set_option maxHeartbeats 4000000
set_option synthInstance.maxHeartbeats 1000000
set_option synthInstance.maxSize 1000000
namespace K15
open PySem PySem.Spec PyProof.Rows L2 Evl Pd Wl Mm
/-- what a drawn handle may be -/
inductive Hd : PyData → Prop
  | pair (i j : Int) : Hd (.tuple [.int i, .int j])
  | none : Hd .none
  | int (i : Int) : Hd (.int i)
  | one (i : Int) : Hd (.tuple [.int i])
  | lst (i j : Int) : Hd (.list [.int i, .int j])
theorem Hd.nr2 {d : PyData} (h : Hd d) : Nr2 d := by cases h <;> first | exact ⟨trivial, trivial⟩ | trivial
theorem atI_all {l : List PyData} {k : Int} {Pr : PyData → Prop} (h0 : 0 ≤ k) (hk : k < (l.length : Nat)) (H : ∀ x ∈ l, Pr x) : ∃ x, atI l k = some x ∧ Pr x := by
  obtain ⟨j, rfl⟩ : ∃ j : Nat, k = (j : Int) := ⟨k.toNat, by omega⟩
  have hj : j < l.length := by omega
  exact ⟨l[j], atI_nat (by rw [List.getElem?_eq_getElem hj]), H _ (List.getElem_mem hj)⟩
theorem md0 {a b : Int} (h : 0 < b) : 0 ≤ a % b := Int.emod_nonneg _ (by omega)
theorem mdl {a b : Int} (h : 0 < b) : a % b < b := Int.emod_lt_of_pos _ h
theorem cdv (a : Int) {b : Int} (h : 0 < b) (h2 : b < 1073741824) : CDiv a b := ⟨h, h2⟩
section
variable {P : Program} {w : World} {K : PySem.W.Frag} {mg : Str → Option Value} {base : Heap}
def D_lhdl (ds : List PyData) (h : Lh) (P : Wv) : Prop := ∃ m p rich, ds = [rf p.a, .int rich] ∧ LmK m p h ∧ 0 ≤ rich ∧ 1 ≤ m.rows.length ∧ m.rows.length ≤ 10 ∧ ∀ d, Hd d → P d h
theorem cal_lhdl (S : Src K mg "_law_handle" st__law_handle ["model", "rich"]) (T : Txt K mg) : Cal P w K mg base CX0 1 "_law_handle" ["model", "rich"] (SpW K D_lhdl) := by
  have sc := sc__law_handle
  refine S.cal (k := 0) sc (SpW.len fun ds h P z => by obtain ⟨_, _, _, rfl, _⟩ := z; rfl) (fun f cdv A outer s H vs Q E hr h => ⟨_, (pss_cons (ps_set (i := 2) sc.nd rfl (by first | exact Or.inl rfl | exact Or.inr rfl) (pe_op op_mod (pv 1) (pe_callB (k_len_seq (K := K) rfl) (by rfl) T.n_len PySem.boot_len (pa_cons (pe_dget (hu_of hr) (pv 0) pe_str (fun _ _ => rfl)) pa_nil))))
  (pss_cons (ps_set (i := 3) sc.nd rfl (by first | exact Or.inl rfl | exact Or.inr rfl) (pe_tup (pa_cons (pv 2) (pa_cons (pe_ix (k_ix_list (K := K) rfl) (pe_ix (k_ix_list (K := K) rfl) (pe_dget (hu_of hr) (pv 0) pe_str (fun _ _ => rfl)) (pv 2) (fun _ _ => rfl)) pe_int (fun _ _ => rfl)) pa_nil))))
  (pss_cons (ps_set (i := 4) sc.nd rfl (by first | exact Or.inl rfl | exact Or.inr rfl) (pe_lst (pa_cons (pe_tup (pa_cons (pv 2) (pa_cons (pe_op op_add (pe_ix (k_ix_tup (K := K) rfl) (pv 3) pe_int (fun _ _ => rfl)) pe_int) pa_nil))) (pa_cons (pe_tup (pa_cons (pv 2) (pa_cons (pe_op op_sub (pe_ix (k_ix_tup (K := K) rfl) (pv 3) pe_int (fun _ _ => rfl)) pe_int) pa_nil))) (pa_cons (pe_tup (pa_cons (pe_callB (k_len_seq (K := K) rfl) (by rfl) T.n_len PySem.boot_len (pa_cons (pe_dget (hu_of hr) (pv 0) pe_str (fun _ _ => rfl)) pa_nil)) (pa_cons pe_int pa_nil))) (pa_cons (pe_tup (pa_cons (pe_un un_neg pe_int) (pa_cons pe_int pa_nil))) (pa_cons pe_non (pa_cons (pv 2) (pa_cons (pe_tup (pa_cons (pv 2) pa_nil)) (pa_cons (pe_lst (pa_cons (pv 2) (pa_cons pe_int pa_nil))) pa_nil))))))))))
  (pss_one (ps_ret (pe_ifExp (pt_cmpR op_eq (pe_op op_mod (pe_op op_fdiv (pv 1) pe_int) pe_int) pe_int (nomark _)) (pe_ix (k_ix_list (K := K) rfl) (pv 4) (pe_op op_mod (pe_op op_fdiv (pv 1) pe_int) pe_int) (fun _ _ => rfl)) (pv 3))))))), h.enter fun ds lh P hD => ?_⟩)
  obtain ⟨m, p, rich, rfl, A0, r0, r1, r10, hk⟩ := hD
  have hl := A0.len
  obtain ⟨i, hi⟩ : ∃ i : Nat, rich % ((p.es.length : Nat) : Int) = (i : Int) := ⟨(rich % ((p.es.length : Nat) : Int)).toNat, by have := Int.emod_nonneg rich (show ((p.es.length : Nat) : Int) ≠ 0 by omega); omega⟩
  have hil : i < p.es.length := by have := Int.emod_lt_of_pos rich (show (0 : Int) < (p.es.length : Nat) by omega); omega
  have en := A0.en i hil
  have a1 := Int.emod_nonneg (rich / 7) (show (8 : Int) ≠ 0 by omega)
  have a2 := Int.emod_lt_of_pos (rich / 7) (show (0 : Int) < 8 by omega)
  simp [CDiv, A0.a, qv_lst A0.tbl, lv_lst A0.tbl, hi, atI_es hil, lvK A0 hil]
  refine ⟨by omega, wCond.p (fun _ => atI_all a1 (by simp; omega) fun x hx => hk x ?_) fun _ => hk _ (.pair _ _)⟩
  simp at hx
  rcases hx with rfl | rfl | rfl | rfl | rfl | rfl | rfl | rfl <;> constructor
def D_ldv (ds : List PyData) (h : Lh) (P : Wv) : Prop := ∃ m p rich, ds = [rf p.a, .int rich] ∧ LmK m p h ∧ 0 ≤ rich ∧ 1 ≤ m.rows.length ∧ m.rows.length ≤ 10 ∧ ∀ d, Nr2 d → P d h
theorem cal_ldv (S : Src K mg "_law_drawn_value" st__law_drawn_value ["model", "rich"]) (T : Txt K mg) (C__law_handle : Cal P w K mg base CX0 1 "_law_handle" ["model", "rich"] (SpW K D_lhdl)) : Cal P w K mg base CX0 2 "_law_drawn_value" ["model", "rich"] (SpW K D_ldv) := by
  have sc := sc__law_drawn_value
  refine S.cal (k := 1) sc (SpW.len fun ds h P z => by obtain ⟨_, _, _, rfl, _⟩ := z; rfl) (fun f cdv A outer s H vs Q E hr h => ⟨_, (pss_cons (ps_set (i := 2) sc.nd rfl (by first | exact Or.inl rfl | exact Or.inr rfl) (pe_lst (pa_cons (pe_op op_sub (pe_op op_mod (pe_op op_fdiv (pv 1) pe_int) pe_int) pe_int) (pa_cons pe_non (pa_cons (pe_tup (pa_cons (pe_op op_mod (pe_op op_fdiv (pv 1) pe_int) pe_int) (pa_cons (pe_op op_mod (pe_op op_fdiv (pv 1) pe_int) pe_int) pa_nil))) (pa_cons (pe_op op_fdiv (pv 1) pe_int) (pa_cons (pe_un un_neg pe_int) (pa_cons (pe_cal C__law_handle (hr.mono (by first | decide | omega)) rfl pass0 (pa_cons (pv 0) (pa_cons (pe_op op_fdiv (pv 1) pe_int) pa_nil))) pa_nil))))))))
  (pss_one (ps_ret (pe_ifExp (pt_cmpR op_gt (pe_op op_mod (pe_op op_fdiv (pv 1) pe_int) pe_int) pe_int (nomark _)) (pe_ix (k_ix_list (K := K) rfl) (pv 2) (pe_op op_mod (pv 1) pe_int) (fun _ _ => rfl)) (pe_ix (k_ix_list (K := K) rfl) (pe_lst (pa_cons pe_str (pa_cons pe_bl (pa_cons (pe_tup (pa_cons pe_int (pa_cons pe_int (pa_cons pe_int pa_nil)))) (pa_cons (pe_lst (pa_cons pe_int pa_nil)) (pa_cons (pe_tup (pa_cons pe_int (pa_cons (pe_un un_neg pe_int) pa_nil))) (pa_cons pe_int pa_nil))))))) (pe_op op_mod (pv 1) pe_int) (fun _ _ => rfl)))))), h.enter fun ds lh P hD => ?_⟩)
  obtain ⟨m, p, rich, rfl, A0, r0, r1, r10, hk⟩ := hD
  have a1 := md0 (a := rich) (b := 6) (by omega)
  have a2 := mdl (a := rich) (b := 6) (by omega)
  simp [CDiv]
  refine ⟨m, p, _, rfl, A0, by omega, r1, r10, fun d hd => ?_⟩
  have n2 := hd.nr2
  refine wCond.p (fun _ => ?_) fun _ => ?_
  · refine atI_all a1 (by simp; omega) fun x hx => hk x ?_
    simp at hx
    rcases hx with rfl | rfl | rfl | rfl | rfl | rfl <;> first | trivial | exact ⟨trivial, trivial⟩ | exact n2
  · refine atI_all a1 (by simp; omega) fun x hx => hk x ?_
    simp at hx
    rcases hx with rfl | rfl | rfl | rfl | rfl | rfl <;> first | trivial | exact ⟨trivial, trivial⟩
end
end K15
set_option Elab.async false
set_option linter.all false
set_option maxRecDepth 100000
set_option maxHeartbeats 4000000
set_option synthInstance.maxHeartbeats 1000000
set_option synthInstance.maxSize 1000000
namespace K15
open PySem PySem.Spec PyProof.Rows L2 Evl Pd Wl Mm
abbrev callL : List PyData := [.str "reserve", .str "fill", .str "fill", .str "write", .str "write", .str "read", .str "free", .str "begin", .str "copy", .str "copy", .str "turn", .str "settle"]
section
variable {P : Program} {w : World} {K : PySem.W.Frag} {mg : Str → Option Value} {base : Heap}
def D_ldrawn (ds : List PyData) (h : Lh) (P : Wv) : Prop := ∃ m p rich, ds = [rf p.a, .int rich] ∧ LmK m p h ∧ 0 ≤ rich ∧ MOk m ∧ 1 ≤ m.rows.length ∧ ∀ x : Ca, CaOk x → (x.k = .write → Hd x.a) → P (.tuple x.ds) h
theorem cal_ldrawn (S : Src K mg "_law_drawn" st__law_drawn ["model", "rich"]) (T : Txt K mg) (C__law_handle : Cal P w K mg base CX0 1 "_law_handle" ["model", "rich"] (SpW K D_lhdl)) (C__law_drawn_value : Cal P w K mg base CX0 2 "_law_drawn_value" ["model", "rich"] (SpW K D_ldv))
    (C__law_live : Cal P w K mg base CX0 1 "_law_live" ["model"] (SpW K D_llive)) (C__law_moving : Cal P w K mg base CX0 2 "_law_moving" ["model"] (SpW K D_lmoving)) (C__law_row : Cal P w K mg base CX0 1 "_law_row" ["model", "slot"] (SpW K D_lrow)) : Cal P w K mg base CX0 3 "_law_drawn" ["model", "rich"] (SpW K D_ldrawn) := by
  have sc := sc__law_drawn
  refine S.cal (k := 2) sc (SpW.len fun ds h P z => by obtain ⟨_, _, _, rfl, _⟩ := z; rfl) (fun f cdv A outer s H vs Q E hr h => ⟨_, (pss_cons (ps_set (i := 2) sc.nd rfl (by first | exact Or.inl rfl | exact Or.inr rfl) (pe_ix (k_ix_list (K := K) rfl) (pe_lst (pa_cons pe_str (pa_cons pe_str (pa_cons pe_str (pa_cons pe_str (pa_cons pe_str (pa_cons pe_str (pa_cons pe_str (pa_cons pe_str (pa_cons pe_str (pa_cons pe_str (pa_cons pe_str (pa_cons pe_str pa_nil))))))))))))) (pe_op op_mod (pv 1) pe_int) (fun _ _ => rfl)))
  (pss_cons (ps_set (i := 3) sc.nd rfl (by first | exact Or.inl rfl | exact Or.inr rfl) (pe_op op_fdiv (pv 1) pe_int))
  (pss_cons (ps_if (pt_cmpR op_eq (pv 2) pe_str (nomark _)) (pss_one (ps_ret (pe_tup (pa_cons (pv 2) (pa_cons (pe_op op_add pe_int (pe_op op_mod (pv 3) pe_int)) (pa_cons pe_int (pa_cons pe_int pa_nil))))))) pss_nil)
  (pss_cons (ps_if (pt_cmpR op_eq (pv 2) pe_str (nomark _)) (pss_cons (ps_set (i := 4) sc.nd rfl (by first | exact Or.inl rfl | exact Or.inr rfl) (pe_callB (k_maxL (K := K) rfl rfl) (by rfl) T.n_max (by decide +kernel) (pa_cons (pe_op op_cat (pe_lst (pa_cons pe_int pa_nil)) (pe_lc (own := [("slot", 6)]) rfl sc.nd (k_pi_list (K := K) rfl (pe_cal C__law_live (hr.mono (by first | decide | omega)) rfl pass0 (pa_cons (pv 0) pa_nil))) (blkOk_by (by first | decide +kernel | kernel_rfl)) (fun _ _ _ _ _ => (pg_name (i := 6) sc.nd rfl (by first | exact Or.inl rfl | exact Or.inr rfl))) (fun _ _ _ _ _ => pts_nil) (fun _ _ _ _ _ => (pe_op op_add (pe_ix (k_ix_list (K := K) rfl) (pe_ix (k_ix_list (K := K) rfl) (pe_dget (hu_of hr) (pv 0) pe_str (fun _ _ => rfl)) (pv 6) (fun _ _ => rfl)) pe_int (fun _ _ => rfl)) (pe_ix (k_ix_list (K := K) rfl) (pe_ix (k_ix_list (K := K) rfl) (pe_dget (hu_of hr) (pv 0) pe_str (fun _ _ => rfl)) (pv 6) (fun _ _ => rfl)) pe_int (fun _ _ => rfl)))))) pa_nil)))
  (pss_one (ps_ret (pe_tup (pa_cons (pv 2) (pa_cons (pe_ix (k_ix_list (K := K) rfl) (pe_lst (pa_cons (pv 4) (pa_cons (pv 4) (pa_cons (pe_dget (hu_of hr) (pv 0) pe_str (fun _ _ => rfl)) (pa_cons (pe_op op_mod (pe_op op_fdiv (pv 3) pe_int) pe_int) (pa_cons (pe_un un_neg pe_int) (pa_cons pe_non pa_nil))))))) (pe_op op_mod (pv 3) pe_int) (fun _ _ => rfl)) (pa_cons pe_int (pa_cons pe_int pa_nil)))))))) pss_nil)
  (pss_cons (ps_if (pt_cmpR (k_in_seq (K := K) rfl) (pv 2) (pe_lst (pa_cons pe_str (pa_cons pe_str (pa_cons pe_str (pa_cons pe_str pa_nil))))) (by rfl)) (pss_cons (ps_set (i := 5) sc.nd rfl (by first | exact Or.inl rfl | exact Or.inr rfl) (pe_ix (k_ix_list (K := K) rfl) (pe_lst (pa_cons (pe_op op_mod (pe_op op_fdiv (pv 3) pe_int) pe_int) (pa_cons (pe_op op_mod (pe_op op_fdiv (pv 3) pe_int) pe_int) (pa_cons (pe_op op_sub (pe_op op_mod (pe_op op_fdiv (pv 3) pe_int) pe_int) pe_int) (pa_cons pe_non pa_nil))))) (pe_op op_mod (pe_op op_fdiv (pv 3) pe_int) pe_int) (fun _ _ => rfl)))
  (pss_one (ps_ret (pe_tup (pa_cons (pv 2) (pa_cons (pe_cal C__law_handle (hr.mono (by first | decide | omega)) rfl pass0 (pa_cons (pv 0) (pa_cons (pe_op op_fdiv (pv 3) pe_int) pa_nil))) (pa_cons (pv 5) (pa_cons (pe_cal C__law_drawn_value (hr.mono (by first | decide | omega)) rfl pass0 (pa_cons (pv 0) (pa_cons (pe_op op_fdiv (pv 3) pe_int) pa_nil))) pa_nil)))))))) pss_nil)
  (pss_cons (ps_set (i := 6) sc.nd rfl (by first | exact Or.inl rfl | exact Or.inr rfl) (pe_op op_mod (pv 3) (pe_callB (k_len_seq (K := K) rfl) (by rfl) T.n_len PySem.boot_len (pa_cons (pe_dget (hu_of hr) (pv 0) pe_str (fun _ _ => rfl)) pa_nil))))
  (pss_cons (ps_if (PW.pt (pw_and (pt_cmpR (k_in_seq (K := K) rfl) (pv 2) (pe_lst (pa_cons pe_str (pa_cons pe_str pa_nil))) (by rfl)) (pw_and (pt_cmpR op_notN (pe_cal C__law_moving (hr.mono (by first | decide | omega)) rfl pass0 (pa_cons (pv 0) pa_nil)) pe_non (nomark _)) (pw_and1 (pt_cmpR op_gt (pe_op op_mod (pe_op op_fdiv (pv 3) pe_int) pe_int) pe_int (nomark _)))))) (pss_one (ps_set (i := 6) sc.nd rfl (by first | exact Or.inl rfl | exact Or.inr rfl) (pe_cal C__law_moving (hr.mono (by first | decide | omega)) rfl pass0 (pa_cons (pv 0) pa_nil)))) pss_nil)
  (pss_cons (ps_if (pt_cmpR op_eq (pe_op op_mod (pe_op op_fdiv (pv 3) pe_int) pe_int) pe_int (nomark _)) (pss_one (ps_set (i := 6) sc.nd rfl (by first | exact Or.inl rfl | exact Or.inr rfl) (pe_ix (k_ix_list (K := K) rfl) (pe_lst (pa_cons (pe_un un_neg pe_int) (pa_cons (pe_callB (k_len_seq (K := K) rfl) (by rfl) T.n_len PySem.boot_len (pa_cons (pe_dget (hu_of hr) (pv 0) pe_str (fun _ _ => rfl)) pa_nil)) (pa_cons pe_non (pa_cons pe_bl (pa_cons pe_str (pa_cons (pe_tup (pa_cons pe_int (pa_cons pe_int pa_nil))) pa_nil))))))) (pe_op op_mod (pe_op op_fdiv (pv 3) pe_int) pe_int) (fun _ _ => rfl)))) pss_nil)
  (pss_cons (ps_if (PW.pt (pw_or (pt_cmpR op_ne (pv 2) pe_str (nomark _)) (pw_or1 (pt_cmpR op_isN (pe_cal C__law_row (hr.mono (by first | decide | omega)) rfl pass0 (pa_cons (pv 0) (pa_cons (pv 6) pa_nil))) pe_non (nomark _))))) (pss_one (ps_ret (pe_tup (pa_cons (pv 2) (pa_cons (pv 6) (pa_cons pe_int (pa_cons pe_int pa_nil))))))) pss_nil)
  (pss_cons (ps_set (i := 7) sc.nd rfl (by first | exact Or.inl rfl | exact Or.inr rfl) (pe_ix (k_ix_list (K := K) rfl) (pe_dget (hu_of hr) (pv 0) pe_str (fun _ _ => rfl)) (pv 6) (fun _ _ => rfl)))
  (pss_cons (ps_set (i := 8) sc.nd rfl (by first | exact Or.inl rfl | exact Or.inr rfl) (pe_callB (k_maxL (K := K) rfl rfl) (by rfl) T.n_max (by decide +kernel) (pa_cons (pe_op op_cat (pe_lst (pa_cons pe_int pa_nil)) (pe_lc (own := [("other", 9)]) rfl sc.nd (k_pi_list (K := K) rfl (pe_dget (hu_of hr) (pv 0) pe_str (fun _ _ => rfl))) (blkOk_by (by first | decide +kernel | kernel_rfl)) (fun _ _ _ _ _ => (pg_name (i := 9) sc.nd rfl (by first | exact Or.inl rfl | exact Or.inr rfl))) (fun _ _ _ _ _ => (pts_one (PW.pt (pw_and (pt_val (pe_ix (k_ix_list (K := K) rfl) (pv 9) pe_int (fun _ _ => rfl))) (pw_and1 (pt_cmpR op_lt (pe_ix (k_ix_list (K := K) rfl) (pv 9) pe_int (fun _ _ => rfl)) (pe_ix (k_ix_list (K := K) rfl) (pv 7) pe_int (fun _ _ => rfl)) (nomark _))))))) (fun _ _ _ _ _ => (pe_op op_add (pe_ix (k_ix_list (K := K) rfl) (pv 9) pe_int (fun _ _ => rfl)) (pe_ix (k_ix_list (K := K) rfl) (pv 9) pe_int (fun _ _ => rfl)))))) pa_nil)))
  (pss_one (ps_ret (pe_tup (pa_cons (pv 2) (pa_cons (pv 6) (pa_cons (pe_ix (k_ix_list (K := K) rfl) (pe_lst (pa_cons (pv 8) (pa_cons (pv 8) (pa_cons (pe_op op_mod (pe_op op_fdiv (pv 3) pe_int) pe_int) (pa_cons (pe_ix (k_ix_list (K := K) rfl) (pv 7) pe_int (fun _ _ => rfl)) (pa_cons (pe_callB (call_max2 rfl) (by rfl) T.n_max (by decide +kernel) (pa_cons pe_int (pa_cons (pe_op op_sub (pe_ix (k_ix_list (K := K) rfl) (pv 7) pe_int (fun _ _ => rfl)) pe_int) pa_nil))) (pa_cons (pe_un un_neg pe_int) (pa_cons pe_non pa_nil)))))))) (pe_op op_mod (pe_op op_fdiv (pv 3) pe_int) pe_int) (fun _ _ => rfl)) (pa_cons pe_int pa_nil)))))))))))))))))), h.enter fun ds lh P hD => ?_⟩)
  obtain ⟨m, p, rich, rfl, A0, r0, O, r1, hk⟩ := hD
  have r10 := O.r10
  have a1 := md0 (a := rich) (b := 12) (by omega)
  have a2 := mdl (a := rich) (b := 12) (by omega)
  refine wSeq_step fun B hB => ?_
  simp
  have : ∃ k : CK, atI callL (rich % 12) = some (.str (nm k)) := by
    obtain ⟨x, e, k, rfl⟩ := atI_all (l := callL) (Pr := fun x => ∃ k, x = .str (nm k)) a1 (by simp; omega) fun x hx => by
      simp at hx
      rcases hx with rfl | rfl | rfl | rfl | rfl | rfl | rfl | rfl | rfl
      · exact ⟨.reserve, rfl⟩
      · exact ⟨.fill, rfl⟩
      · exact ⟨.write, rfl⟩
      · exact ⟨.read, rfl⟩
      · exact ⟨.free, rfl⟩
      · exact ⟨.begin_, rfl⟩
      · exact ⟨.copy, rfl⟩
      · exact ⟨.turn, rfl⟩
      · exact ⟨.settle, rfl⟩
    exact ⟨k, e⟩
  obtain ⟨k, ek⟩ := this
  refine ⟨_, ek, ?_⟩
  subst hB
  refine wSeq_step fun B hB => ?_
  simp [CDiv]
  subst hB
  clear a1 a2 ek
  have q0 : 0 ≤ rich / 12 := by omega
  generalize rich / 12 = rest at q0
  refine wSeq_step fun B hB => ?_
  by_cases k1 : k = .reserve
  · subst k1
    simp [nm]
    exact hk ⟨.reserve, .int (1 + rest % 5), .int 0, .int 0⟩ ⟨trivial, trivial, trivial, fun _ => ⟨_, rfl, by omega, by omega⟩⟩ nofun
  have e1 : nm k ≠ "reserve" := by cases k <;> first | exact absurd rfl k1 | decide
  simp [e1]
  subst hB
  refine wSeq_step fun B hB => ?_
  by_cases k2 : k = .settle
  · subst k2
    simp [nm]
    refine ⟨m, p, rfl, A0, by omega, ?_⟩
    simp [A0.a, lv_lst A0.tbl]
    refine lcL_map (l := liveL m) (emb := fun (i : Nat) => PyData.int (i : Int)) (fun i => .int ((m.row i).start + (m.row i).size)) trivial (by have := List.length_filter_le (fun i => (m.row i).live) (List.range m.rows.length); rw [List.length_range] at this; show ((List.range m.rows.length).filter fun i => (m.row i).live).length ≤ 100000; omega) (fun i hi F hF => ?_) ?_
    · have hi' : i < p.es.length := by have := List.mem_range.mp (List.mem_filter.mp hi).1; have := A0.len; omega
      simp [A0.a, lv_lst A0.tbl, atI_es hi', lvK A0 hi']
      exact hF
    · refine ⟨?_, 0 :: (liveL m).map fun i => (m.row i).start + (m.row i).size, by simp [List.map_map, Function.comp_def], by simp, fun x _ _ => ⟨_, A0.a, .int m.e, by rfl, ⟨by omega, by omega⟩, atI_all (md0 (by omega)) (by have := mdl (a := rest) (b := 6) (by omega); simp; omega) fun y hy => ?_⟩⟩
      · have := List.length_filter_le (fun i => (m.row i).live) (List.range m.rows.length); rw [List.length_range] at this; rw [List.length_map]; show 1 + ((List.range m.rows.length).filter fun i => (m.row i).live).length ≤ 100000; omega
      · refine hk ⟨.settle, y, .int 0, .int 0⟩ ⟨?_, trivial, trivial, nofun⟩ nofun
        simp at hy
        rcases hy with rfl | rfl | rfl | rfl | rfl <;> trivial
  have e2 : nm k ≠ "settle" := by cases k <;> first | exact absurd rfl k2 | decide
  simp [e2]
  subst hB
  refine wSeq_step fun B hB => ?_
  simp [CDiv, qv]
  by_cases k3 : k = .fill ∨ k = .read ∨ k = .write
  · have c3 : (decide (nm k = "fill") || (decide (nm k = "read") || (decide (nm k = "write") || decide (nm k = "place")))) = true := by
      rcases k3 with rfl | rfl | rfl <;> simp [nm]
    rw [c3, wCond_t]
    refine atI_all (Pr := fun x => D_lhdl _ _ _) (md0 (by omega)) (by have := mdl (a := rest / 3) (b := 4) (by omega); simp; omega) fun y hy => ?_
    refine ⟨m, p, _, rfl, A0, by omega, r1, r10, fun d hd => ⟨m, p, _, rfl, A0, by omega, r1, r10, fun d2 hd2 => ?_⟩⟩
    refine hk ⟨k, d, y, d2⟩ ⟨hd.nr2, ?_, hd2, fun z => absurd z k1⟩ fun _ => hd
    simp at hy
    rcases hy with rfl | rfl | rfl <;> trivial
  have c3 : (decide (nm k = "fill") || (decide (nm k = "read") || (decide (nm k = "write") || decide (nm k = "place")))) = false := by
    clear hB hk
    cases k <;> simp [nm] at k1 k2 k3 ⊢
  rw [c3, wCond_f]
  subst hB
  have hl := A0.len
  refine wSeq_step fun B hB => ?_
  simp [A0.a, qv_lst A0.tbl, lv_lst A0.tbl]
  refine ⟨by omega, ?_⟩
  have n5 : Nr2 (.int (rest % (p.es.length : Nat))) := trivial
  generalize PyData.int (rest % (p.es.length : Nat)) = d5 at n5
  subst hB
  refine wSeq_step fun B hB => ?_
  have t6 : ∀ d, Nr2 d → B { nx := fun x h' => P PyData.none h', rt := P } [some (rf p.a), some (PyData.int rich), some (PyData.str (nm k)), some (PyData.int rest), none, none, some d, none, none, none] lh := by
    intro d nd
    clear n5 d5
    subst hB
    refine wSeq_step fun B hB => ?_
    have t7 : ∀ d, Nr2 d → B { nx := fun x h' => P PyData.none h', rt := P } [some (rf p.a), some (PyData.int rich), some (PyData.str (nm k)), some (PyData.int rest), none, none, some d, none, none, none] lh := by
      intro d nd
      subst hB
      refine wSeq_step fun B hB => ?_
      simp
      refine wCond.i (fun _ => ⟨m, p, d, rfl, A0, nd.top, ?_⟩) fun c => hk ⟨k, d, .int 0, .int 0⟩ ⟨nd, trivial, trivial, fun z => absurd z k1⟩ fun z => absurd (.inr (.inr z)) k3
      · cases ca : atSlot m d with
        | none =>
          simp
          exact hk ⟨k, d, .int 0, .int 0⟩ ⟨nd, trivial, trivial, fun z => absurd z k1⟩ fun z => absurd (.inr (.inr z)) k3
        | some i =>
          obtain ⟨rfl, hi, live⟩ := atSlot_lt' ca
          intro hi'
          have en := A0.en i hi'
          simp
          subst hB
          refine wSeq_step fun B hB => ?_
          simp [A0.a, lv_lst A0.tbl, atI_es hi']
          subst hB
          refine wSeq_step fun B hB => ?_
          simp [A0.a, lv_lst A0.tbl, atI_es hi', lvK A0 hi', en]
          rw [es_range]
          refine lcL_filter (l := List.range p.es.length) (emb := fun i => rf (p.es.getD i 0)) (fun j => (m.row j).live && decide ((m.row j).start < (m.row i).start)) (fun j => .int ((m.row j).start + (m.row j).size)) (by simp [A0.tbl, es_range]) (by simp; omega) (fun j hj F F0 h1 h2 => ?_) ?_
          · have hj' : j < p.es.length := List.mem_range.mp hj
            rw [getD_es hj']
            simp [lvK A0 hj', en, lvK A0 hi']
            exact wCond.i h1 h2
          · refine ⟨?_, 0 :: ((List.range p.es.length).filter fun j => (m.row j).live && decide ((m.row j).start < (m.row i).start)).map fun j => (m.row j).start + (m.row j).size, by simp [List.map_map, Function.comp_def], by simp, fun x _ _ => ?_⟩
            · have := List.length_filter_le (fun j => (m.row j).live && decide ((m.row j).start < (m.row i).start)) (List.range p.es.length)
              rw [List.length_range] at this
              rw [List.length_map]; omega
            · subst hB
              simp [CDiv, lvK A0 hi']
              refine atI_all (md0 (by omega)) (by have := mdl (a := rest / 8) (b := 7) (by omega); simp; omega) fun y hy => ?_
              refine hk ⟨k, .int i, y, .int 0⟩ ⟨trivial, ?_, trivial, fun z => absurd z k1⟩ fun z => absurd (.inr (.inr z)) k3
              simp only [List.mem_cons, List.not_mem_nil, or_false] at hy
              rcases hy with rfl | rfl | rfl | rfl | rfl | rfl | rfl <;> trivial
    simp [CDiv]
    refine wCond.i (fun _ => ?_) fun _ => t7 d nd
    refine ⟨_, A0.a, _, by rfl, _, A0.qt, atI_all (md0 (by omega)) (by have := mdl (a := rest / 7) (b := 6) (by omega); simp; omega) fun y hy => t7 y ?_⟩
    simp at hy
    rcases hy with rfl | rfl | rfl | rfl | rfl | rfl <;> first | trivial | exact ⟨trivial, trivial⟩
  simp [qv, CDiv]
  refine wCond.i (fun _ => ?_) fun _ => t6 _ n5
  refine ⟨m, p, rfl, A0, by omega, wCond.i (fun _ => ⟨m, p, rfl, A0, by omega, t6 _ ?_⟩) fun _ => t6 _ n5⟩
  cases mover m <;> trivial
end
end K15
set_option Elab.async false
set_option linter.all false
set_option maxRecDepth 100000
set_option maxHeartbeats 4000000
set_option synthInstance.maxHeartbeats 1000000
set_option synthInstance.maxSize 1000000
namespace K15
open PySem PySem.Spec PyProof.Rows L2 Evl Pd Wl Mm
/-- counts, live or not -/
structure RowC (r : Mm.Row) : Prop where
  stamp : 0 ≤ r.stamp
  size : 0 ≤ r.size
  start : 0 ≤ r.start
  filled : 0 ≤ r.filled
  done : 0 ≤ r.done
  mark : 0 ≤ r.mark
  to : ∀ t, r.to = some t → 0 ≤ t
section
variable {P : Program} {w : World} {K : PySem.W.Frag} {mg : Str → Option Value} {base : Heap}
def D_is_row (ds : List PyData) (h : Lh) (P : Wv) : Prop := ∃ r : Mm.Row, ds = [.tuple r.ds] ∧ RowC r ∧ P (.bool true) h
theorem cal_is_row (S : Src K mg "is_row" st_is_row ["value"]) (T : Txt K mg) (C_is_count : Cal P w K mg base CX0 2 "is_count" ["value"] (SpW K D_is_count)) : Cal P w K mg base CX0 3 "is_row" ["value"] (SpW K D_is_row) := by
  have sc := sc_is_row
  refine S.cal (k := 2) sc (SpW.len fun ds h P z => by obtain ⟨_, rfl, _⟩ := z; rfl) (fun f cdv A outer s H vs Q E hr h => ⟨_, (pss_cons (ps_if (PW.pt (pw_or (pt_not (pt_val (pe_callB (k_isi (K := K) rfl) (by rfl) T.n_isinstance (by decide +kernel) (pa_cons (pv 0) (pa_cons (pe_bltn (v := .ty "tuple") (by rfl) T.n_tuple (by decide +kernel) rfl) pa_nil))))) (pw_or1 (pt_cmpR op_ne (pe_callB (k_len_seq (K := K) rfl) (by rfl) T.n_len PySem.boot_len (pa_cons (pv 0) pa_nil)) pe_int (nomark _))))) (pss_one (ps_ret pe_bl)) pss_nil)
  (pss_cons (ps_asg (pv 0) (k_pg_tup (K := K) (n := 9) rfl rfl (pgs_cons (pg_name (i := 1) sc.nd rfl (by first | exact Or.inl rfl | exact Or.inr rfl)) (pgs_cons (pg_name (i := 2) sc.nd rfl (by first | exact Or.inl rfl | exact Or.inr rfl)) (pgs_cons (pg_name (i := 3) sc.nd rfl (by first | exact Or.inl rfl | exact Or.inr rfl)) (pgs_cons (pg_name (i := 4) sc.nd rfl (by first | exact Or.inl rfl | exact Or.inr rfl)) (pgs_cons (pg_name (i := 5) sc.nd rfl (by first | exact Or.inl rfl | exact Or.inr rfl)) (pgs_cons (pg_name (i := 6) sc.nd rfl (by first | exact Or.inl rfl | exact Or.inr rfl)) (pgs_cons (pg_name (i := 7) sc.nd rfl (by first | exact Or.inl rfl | exact Or.inr rfl)) (pgs_cons (pg_name (i := 8) sc.nd rfl (by first | exact Or.inl rfl | exact Or.inr rfl)) (pgs_cons (pg_name (i := 9) sc.nd rfl (by first | exact Or.inl rfl | exact Or.inr rfl)) pgs_nil)))))))))))
  (pss_cons (ps_if (PW.pt (pw_or (pt_not (pt_val (pe_callB (k_isi (K := K) rfl) (by rfl) T.n_isinstance (by decide +kernel) (pa_cons (pv 2) (pa_cons (pe_bltn (v := .ty "bool") (by rfl) T.n_bool (by decide +kernel) rfl) pa_nil))))) (pw_or (pt_not (pt_val (pe_callB (k_isi (K := K) rfl) (by rfl) T.n_isinstance (by decide +kernel) (pa_cons (pv 9) (pa_cons (pe_bltn (v := .ty "bool") (by rfl) T.n_bool (by decide +kernel) rfl) pa_nil))))) (pw_or1 (pt_not (PW.pt (pw_or (pt_cmpR op_isN (pv 6) pe_non (nomark _)) (pw_or1 (pt_val (pe_cal C_is_count (hr.mono (by first | decide | omega)) rfl pass0 (pa_cons (pv 6) pa_nil))))))))))) (pss_one (ps_ret pe_bl)) pss_nil)
  (pss_one (ps_ret (pe_callB (k_all (K := K) rfl rfl) (by rfl) T.n_all (by decide +kernel) (pa_cons (pe_lc (own := [("number", 10)]) rfl sc.nd (k_pi_tup (K := K) rfl (pe_tup (pa_cons (pv 1) (pa_cons (pv 3) (pa_cons (pv 4) (pa_cons (pv 5) (pa_cons (pv 7) (pa_cons (pv 8) pa_nil)))))))) (blkOk_by (by first | decide +kernel | kernel_rfl)) (fun _ _ _ _ _ => (pg_name (i := 10) sc.nd rfl (by first | exact Or.inl rfl | exact Or.inr rfl))) (fun _ _ _ _ _ => pts_nil) (fun _ _ _ _ _ => (pe_cal C_is_count (hr.mono (by first | decide | omega)) rfl pass0 (pa_cons (pv 10) pa_nil)))) pa_nil))))))), h.enter fun ds lh P hD => ?_⟩)
  obtain ⟨r, rfl, R, hk⟩ := hD
  have c1 := R.stamp
  have c2 := R.size
  have c3 := R.start
  have c4 := R.filled
  have c5 := R.done
  have c6 := R.mark
  have nr : ∀ i : Int, Nr (.int i) := fun _ => trivial
  refine wSeq_step fun B hB => ?_
  simp
  subst hB
  refine wSeq_step fun B hB => ?_
  simp
  subst hB
  refine wSeq_step fun B hB => ?_
  have tail : B { nx := fun x h' => P PyData.none h', rt := P } [some (.tuple r.ds), some (.int r.stamp), some (.bool r.live), some (.int r.size), some (.int r.start), some (.int r.filled), some (oI r.to), some (.int r.done), some (.int r.mark), some (.bool r.black), none] lh := by
    subst hB
    simp [D_is_count, nr, isCnt, c1, c2, c3, c4, c5, c6]
    exact hk
  cases e : r.to with
  | none =>
    rw [e] at tail
    simp [oI] at tail ⊢
    exact tail
  | some t =>
    have t0 := R.to t e
    rw [e] at tail
    simp [oI, D_is_count, nr, isCnt, t0] at tail ⊢
    exact tail
end
end K15
set_option Elab.async false
set_option linter.all false
set_option maxRecDepth 100000
set_option maxHeartbeats 1000000
/-! R2p: the spans of a sound table lie apart, at most one moves. No program. -/
namespace K15
open PySem PySem.Spec PyProof.Rows L2 Evl Pd Wl Mm
abbrev spO (r : Mm.Row) : Int × Int := (Mm.lo r, Mm.hi r)
def spansOf (rs : List Mm.Row) : List (Int × Int) := (rs.filter fun r => r.live).map spO
def movN (rs : List Mm.Row) : Nat := (rs.filter fun r => r.live && r.to.isSome).length
theorem row_get {m : Mem} {i : Nat} (h : i < m.rows.length) : m.rows[i] = m.row i := by simp [Mem.row, List.getD, h]
theorem spans_dis {m : Mem} (S : Snd m) : (spansOf m.rows).Pairwise fun a b => a.2 ≤ b.1 ∨ b.2 ≤ a.1 := by
  unfold spansOf
  rw [List.pairwise_map, List.pairwise_filter]
  rw [List.pairwise_iff_getElem]
  intro i j hi hj hij h1 h2
  rw [row_get hi] at h1 ⊢
  rw [row_get hj] at h2 ⊢
  exact S.dis i j hi hj (by omega) h1 h2
theorem mov_le {m : Mem} (S : Snd m) : movN m.rows ≤ 1 := by
  unfold movN
  have h : (m.rows.filter fun r => r.live && r.to.isSome).Pairwise fun _ _ => False := by
    rw [List.pairwise_filter, List.pairwise_iff_getElem]
    intro i j hi hj hij h1 h2
    rw [row_get hi] at h1
    rw [row_get hj] at h2
    simp only [Bool.and_eq_true] at h1 h2
    have := S.one i j hi hj h1.1 h2.1 h1.2 h2.2
    omega
  generalize (m.rows.filter fun r => r.live && r.to.isSome) = l at h
  match l, h with
  | [], _ => exact Nat.zero_le _
  | [a], _ => exact Nat.le_refl _
  | a :: b :: l, h => exact ((List.pairwise_cons.mp h).1 b (List.mem_cons_self ..)).elim
theorem spans_lt {m : Mem} (S : Snd m) : ∀ a ∈ spansOf m.rows, a.1 < a.2 := fun a ha => by
  obtain ⟨r, hr, rfl⟩ := List.mem_map.mp ha
  obtain ⟨h1, h2⟩ := List.mem_filter.mp hr
  obtain ⟨i, hi, rfl⟩ := List.mem_iff_getElem.mp h1
  rw [row_get hi] at h2 ⊢
  have R := S.row i hi h2
  show Mm.lo _ < Mm.hi _
  unfold Mm.lo Mm.hi
  have := R.size
  cases c : (m.row i).to with
  | none => simp; omega
  | some t => have := (R.to t c).2.1; simp; omega
theorem spans_sorted {m : Mem} (S : Snd m) {L : List (Int × Int)} (pm : L.Perm (spansOf m.rows)) (pw : L.Pairwise fun x y => SrtO.lexB y x = false) : L.Pairwise fun a b => a.2 ≤ b.1 := by
  have d : L.Pairwise fun a b => a.2 ≤ b.1 ∨ b.2 ≤ a.1 := (pm.pairwise_iff (fun h => h.symm)).mpr (spans_dis S)
  refine List.Pairwise.imp_of_mem (fun {a b} ha hb h => ?_) (d.and pw)
  obtain ⟨h1, h2⟩ := h
  have := SrtO.lexB_no.mp h2
  have la := spans_lt S a (pm.mem_iff.mp ha)
  have lb := spans_lt S b (pm.mem_iff.mp hb)
  omega
theorem zip_tail : ∀ {L : List (Int × Int)}, L.Pairwise (fun a b => a.2 ≤ b.1) → ∀ p ∈ L.zip (L.drop 1), p.1.2 ≤ p.2.1
  | [], _, p, h => by cases h
  | [a], _, p, h => by simp at h
  | a :: b :: L, pw, p, h => by
    rw [List.pairwise_cons] at pw
    simp only [List.drop_succ_cons, List.drop_zero, List.zip_cons_cons, List.mem_cons] at h
    rcases h with rfl | h
    · exact pw.1 b (List.mem_cons_self ..)
    · exact zip_tail pw.2 p (by simpa using h)
theorem zipD_pairs (L : List (Int × Int)) : zipD (L.map pD) ((L.map pD).drop 1) = (L.zip (L.drop 1)).map fun p => PyData.tuple [pD p.1, pD p.2] := by
  unfold zipD
  rw [← List.map_drop, List.zip_map, List.map_map]
  rfl
end K15
set_option Elab.async false
set_option linter.all false
set_option maxRecDepth 100000
set_option maxHeartbeats 4000000
set_option synthInstance.maxHeartbeats 1000000
set_option synthInstance.maxSize 1000000
namespace K15
open PySem PySem.Spec PyProof.Rows L2 Evl Pd Wl Mm
abbrev rowsD (m : Mem) : List PyData := m.rows.map fun r => .tuple r.ds
section
variable {P : Program} {w : World} {K : PySem.W.Frag} {mg : Str → Option Value} {base : Heap}
def D_is_sound (ds : List PyData) (h : Lh) (P : Wv) : Prop := ∃ m : Mem, ds = [.tuple (rowsD m), .int m.e] ∧ Snd m ∧ P (.bool true) h
theorem cal_is_sound (S : Src K mg "is_sound" st_is_sound ["rows", "end"]) (T : Txt K mg) (np : NP K) : Cal P w K mg base CX0 1 "is_sound" ["rows", "end"] (SpW K D_is_sound) := by
  have sc := sc_is_sound
  refine S.cal (k := 0) sc (SpW.len fun ds h P z => by obtain ⟨_, rfl, _⟩ := z; rfl) (fun f cdv A outer s H vs Q E hr h => ⟨_, (pss_cons (ps_set (i := 2) sc.nd rfl (by first | exact Or.inl rfl | exact Or.inr rfl) (pe_ref (pe_lst pa_nil)))
  (pss_cons (ps_set (i := 3) sc.nd rfl (by first | exact Or.inl rfl | exact Or.inr rfl) pe_int)
  (pss_cons (ps_for PassesOwn.never rfl (k_pi_tup (K := K) rfl (pv 0)) (k_pg_tup (K := K) (n := 9) rfl rfl (pgs_cons (pg_name (i := 4) sc.nd rfl (by first | exact Or.inl rfl | exact Or.inr rfl)) (pgs_cons (pg_name (i := 5) sc.nd rfl (by first | exact Or.inl rfl | exact Or.inr rfl)) (pgs_cons (pg_name (i := 6) sc.nd rfl (by first | exact Or.inl rfl | exact Or.inr rfl)) (pgs_cons (pg_name (i := 7) sc.nd rfl (by first | exact Or.inl rfl | exact Or.inr rfl)) (pgs_cons (pg_name (i := 8) sc.nd rfl (by first | exact Or.inl rfl | exact Or.inr rfl)) (pgs_cons (pg_name (i := 9) sc.nd rfl (by first | exact Or.inl rfl | exact Or.inr rfl)) (pgs_cons (pg_name (i := 10) sc.nd rfl (by first | exact Or.inl rfl | exact Or.inr rfl)) (pgs_cons (pg_name (i := 4) sc.nd rfl (by first | exact Or.inl rfl | exact Or.inr rfl)) (pgs_cons (pg_name (i := 4) sc.nd rfl (by first | exact Or.inl rfl | exact Or.inr rfl)) pgs_nil)))))))))) (pss_cons (ps_if (pt_not (pt_val (pv 5))) (pss_one ps_continue) pss_nil)
  (pss_cons (ps_if (PW.pt (pw_or (pt_cmpR op_lt (pv 6) pe_int (nomark _)) (pw_or (pt_cmpR op_gt (pv 8) (pv 6) (nomark _)) (pw_or (pt_cmpR op_gt (pe_op op_add (pv 7) (pv 6)) (pv 1) (nomark _)) (pw_or1 (pt_cmpR op_gt (pv 10) (pe_ifExp (pt_cmpR op_isN (pv 9) pe_non (nomark _)) pe_int (pv 6)) (nomark _))))))) (pss_one (ps_ret pe_bl)) pss_nil)
  (pss_cons (ps_if (PW.pt (pw_and (pt_cmpR op_notN (pv 9) pe_non (nomark _)) (pw_and1 (pt_cmpR op_ge (pv 9) (pv 7) (nomark _))))) (pss_one (ps_ret pe_bl)) pss_nil)
  (pss_cons (ps_aug (i := 3) sc.nd rfl (by first | exact Or.inl rfl | exact Or.inr rfl) (pe_ifExp (pt_cmpR op_isN (pv 9) pe_non (nomark _)) pe_int pe_int) ip_add)
  (pss_one (ps_expr (k_append (K := K) rfl (pv 2) (pa_cons (pe_tup (pa_cons (pe_ifExp (pt_cmpR op_isN (pv 9) pe_non (nomark _)) (pv 7) (pv 9)) (pa_cons (pe_op op_add (pv 7) (pv 6)) pa_nil))) pa_nil)))))))))
  (pss_cons (ps_set (i := 2) sc.nd rfl (by first | exact Or.inl rfl | exact Or.inr rfl) (pe_callB (k_sortedPO (K := K) rfl) (by rfl) T.n_sorted (by decide +kernel) (pa_cons (pv 2) pa_nil)))
  (pss_one (ps_ret (pe_and (pe_cmpR op_lt (pv 3) pe_int (nomark _)) (pe_one (pe_callB (k_all (K := K) rfl rfl) (by rfl) T.n_all (by decide +kernel) (pa_cons (pe_lc (own := [("one", 11), ("other", 12)]) rfl sc.nd (k_pi_zipA (K := K) rfl (by rfl) T.n_zip (pa_cons (pv 2) (pa_cons (pe_slice (k_sl_list (K := K) rfl) (pv 2) (po_some pe_int) po_none) pa_nil))) (blkOk_by (by first | decide +kernel | kernel_rfl)) (fun _ _ _ _ _ => (k_pg_tup (K := K) (n := 2) rfl rfl (pgs_cons (pg_name (i := 11) sc.nd rfl (by first | exact Or.inl rfl | exact Or.inr rfl)) (pgs_cons (pg_name (i := 12) sc.nd rfl (by first | exact Or.inl rfl | exact Or.inr rfl)) pgs_nil)))) (fun _ _ _ _ _ => pts_nil) (fun _ _ _ _ _ => (pe_cmpR op_le (pe_ix (k_ix_tup (K := K) rfl) (pv 11) pe_int (fun _ _ => rfl)) (pe_ix (k_ix_tup (K := K) rfl) (pv 12) pe_int (fun _ _ => rfl)) (nomark _)))) pa_nil)))))))))), h.enterF fun ds lh P hD => ?_⟩)
  obtain ⟨m, rfl, Sn, hk⟩ := hD
  refine wSeq_step fun B hB => ?_
  simp
  intro sp hsp
  have T0 : Tk [] lh [ceR sp (.lst [])] (up lh sp (.lst [])) := (Tk.nil lh).new hsp
  generalize up lh sp (.lst []) = h1 at T0
  subst hB
  refine wSeq_step fun B hB => ?_
  simp
  subst hB
  refine wSeq_step fun B hB => ?_
  simp
  refine forL_run (fun ds ρ h => ∃ (dn rs : List Mm.Row) (o4 o5 o6 o7 o8 o9 o10 : Option PyData), m.rows = dn ++ rs ∧ ds = rs.map (fun r => PyData.tuple r.ds) ∧ ρ = [some (PyData.tuple (rowsD m)), some (.int m.e), some (rf sp), some (.int (movN dn : Nat)), o4, o5, o6, o7, o8, o9, o10, none, none] ∧ Tk [] lh [ceR sp (.lst ((spansOf dn).map pD))] h) ?_ ?_ ⟨[], m.rows, none, none, none, none, none, none, none, rfl, rfl, rfl, T0⟩
  · rintro d ds ρ h ⟨dn, rs, o4, o5, o6, o7, o8, o9, o10, e, eds, rfl, T1⟩
    cases rs with
    | nil => cases eds
    | cons r rs =>
    simp only [List.map_cons, List.cons.injEq] at eds
    obtain ⟨rfl, rfl⟩ := eds
    refine ⟨trivial, fun F hF => ?_⟩
    have hs : h sp = some (.lst ((spansOf dn).map pD)) := T1.at_.get (i := 0) rfl
    have go : ∀ h' o4 o5 o6 o7 o8 o9 o10, Tk [] lh [ceR sp (.lst ((spansOf (dn ++ [r])).map pD))] h' → F [some (PyData.tuple (rowsD m)), some (.int m.e), some (rf sp), some (.int (movN (dn ++ [r]) : Nat)), o4, o5, o6, o7, o8, o9, o10, none, none] h' := fun h' o4 o5 o6 o7 o8 o9 o10 t => hF _ _ ⟨dn ++ [r], rs, o4, o5, o6, o7, o8, o9, o10, by rw [e]; simp, rfl, rfl, t⟩
    have rc := Sn.rc
    have dl : dn.length ≤ m.rows.length := by rw [e]; simp
    have sl : (spansOf dn).length ≤ dn.length := by unfold spansOf; rw [List.length_map]; exact List.length_filter_le _ _
    cases hl : r.live with
    | false =>
      have e1 : spansOf (dn ++ [r]) = spansOf dn := by unfold spansOf; rw [List.filter_append, List.filter_cons_of_neg (by simp [hl])]; simp
      have e2 : movN (dn ++ [r]) = movN dn := by unfold movN; rw [List.filter_append, List.filter_cons_of_neg (by simp [hl])]; simp
      rw [e1, e2] at go
      simp [tv, hl]
      exact go _ _ _ _ _ _ _ _ T1
    | true =>
      have hi : dn.length < m.rows.length := by rw [e]; simp
      have er : m.row dn.length = r := by rw [← row_get hi]; simp [e]
      have R := Sn.row dn.length hi (by rw [er]; exact hl)
      rw [er] at R
      have c1 := R.size
      have c2 := R.fil
      have c3 := R.hi
      have e1 : spansOf (dn ++ [r]) = spansOf dn ++ [spO r] := by unfold spansOf; rw [List.filter_append, List.filter_cons_of_pos (by simp [hl])]; simp
      rw [e1] at go
      have n1 : ¬ r.size < 1 := by omega
      have n2 : ¬ r.size < r.filled := by omega
      have n3 : ¬ m.e < r.start + r.size := by omega
      cases ht : r.to with
      | none =>
        have n4 := R.dnN ht
        have e2 : movN (dn ++ [r]) = movN dn := by unfold movN; rw [List.filter_append, List.filter_cons_of_neg (by simp [ht])]; simp
        rw [e2] at go
        simp [tv, hl, ht, oI, n1, n2, n3, n4, hs]
        refine ⟨by omega, ?_⟩
        have T2 := T1.put (a := sp) (o := .lst ((spansOf dn).map pD)) (u := .lst ((spansOf dn).map pD ++ [.tuple [.int r.start, .int (r.start + r.size)]])) 0 rfl
        refine go _ _ _ _ _ _ _ _ ?_
        have e5 : (spansOf dn ++ [spO r]).map pD = (spansOf dn).map pD ++ [.tuple [.int r.start, .int (r.start + r.size)]] := by
          simp [spO, Mm.lo, Mm.hi, ht]
        rw [e5]
        exact T2
      | some t =>
        obtain ⟨n5, n6, n7⟩ := R.to t ht
        have n4 : ¬ r.size < r.done := by omega
        have n8 : ¬ r.start ≤ t := by omega
        have e2 : movN (dn ++ [r]) = movN dn + 1 := by unfold movN; rw [List.filter_append, List.filter_cons_of_pos (by simp [ht, hl])]; simp
        rw [e2] at go
        simp [tv, hl, ht, oI, n1, n2, n3, n4, n8, hs]
        refine ⟨by omega, ?_⟩
        have T2 := T1.put (a := sp) (o := .lst ((spansOf dn).map pD)) (u := .lst ((spansOf dn).map pD ++ [.tuple [.int t, .int (r.start + r.size)]])) 0 rfl
        refine go _ _ _ _ _ _ _ _ ?_
        have e5 : (spansOf dn ++ [spO r]).map pD = (spansOf dn).map pD ++ [.tuple [.int t, .int (r.start + r.size)]] := by
          simp [spO, Mm.lo, Mm.hi, ht]
        rw [e5]
        exact T2
  · rintro ρ h ⟨dn, rs, o4, o5, o6, o7, o8, o9, o10, e, eds, rfl, T1⟩
    have : rs = [] := by cases rs with | nil => rfl | cons a b => cases eds
    subst this
    rw [List.append_nil] at e
    subst e
    have hs : h sp = some (.lst ((spansOf m.rows).map pD)) := T1.at_.get (i := 0) rfl
    refine ⟨trivial, ?_⟩
    show B _ _ _
    subst hB
    refine wSeq_step fun B hB => ?_
    simp [hs]
    refine ⟨np, _, rfl, fun L pm pw => ?_⟩
    subst hB
    have ml := mov_le Sn
    have m2 : (movN m.rows : Int) < 2 := by omega
    simp [m2]
    rw [← List.drop_one, zipD_pairs]
    have ll : L.length ≤ 1000 := by
      rw [pm.length_eq]
      have := Sn.rc
      have h2 := List.length_filter_le (fun r : Mm.Row => r.live) m.rows
      unfold spansOf
      rw [List.length_map]
      omega
    refine lcL_map (l := L.zip (L.drop 1)) (emb := fun p => PyData.tuple [pD p.1, pD p.2]) (fun p => .bool (decide (p.1.2 ≤ p.2.1))) trivial (by rw [List.length_zip]; omega) (fun p hp F hF => ?_) ?_
    · simp
      exact hF
    · refine ⟨_, boolL_mapF _ _, fun a o ho => T1.fr (by simp) ho, ?_⟩
      have e : ((L.zip (L.drop 1)).map fun p => decide (p.1.2 ≤ p.2.1)).all id = true := by
        rw [List.all_map, List.all_eq_true]
        intro p hp
        exact decide_eq_true (zip_tail (spans_sorted Sn pm pw) p hp)
      rw [e]
      exact hk
end
end K15
set_option Elab.async false
set_option linter.all false
set_option maxRecDepth 100000
set_option maxHeartbeats 4000000
set_option synthInstance.maxHeartbeats 1000000
set_option synthInstance.maxSize 1000000
namespace K15
open PySem PySem.Spec PyProof.Rows L2 Evl Pd Wl Mm
/-- a memory whose state may be restored -/
structure Fin (m : Mem) : Prop where
  snd : Snd m
  vals : ∀ d ∈ m.ar, isVal d = true
  rows : ∀ r ∈ m.rows, RowC r
  a1 : 1 ≤ m.ar.length
  r1 : 1 ≤ m.rows.length
theorem nr_val {d : PyData} (h : isVal d = true) : Nr2 d := by
  unfold isVal at h
  split at h
  · trivial
  · trivial
  · unfold isHdl at h
    split at h
    · next a b =>
      simp at h
      obtain ⟨i, rfl, _⟩ := isCnt_int h.1
      obtain ⟨j, rfl, _⟩ := isCnt_int h.2
      exact ⟨trivial, trivial⟩
    · cases h
section
variable {P : Program} {w : World} {K : PySem.W.Frag} {mg : Str → Option Value} {base : Heap} {C E : Addr}
def D_is_state (ds : List PyData) (h : Lh) (P : Wv) : Prop := ∃ m : Mem, ds = [stateD m] ∧ Fin m ∧ P (.bool true) h
theorem cal_is_state (S : Src K mg "is_state" st_is_state ["value"]) (T : Txt K mg) (C_is_count : Cal P w K mg base CX0 2 "is_count" ["value"] (SpW K D_is_count)) (C_is_value : Cal P w K mg base CX0 4 "is_value" ["value"] (SpW K D_is_value)) (C_is_row : Cal P w K mg base CX0 3 "is_row" ["value"] (SpW K D_is_row)) (C_is_sound : Cal P w K mg base CX0 1 "is_sound" ["rows", "end"] (SpW K D_is_sound)) : Cal P w K mg base CX0 5 "is_state" ["value"] (SpW K D_is_state) := by
  have sc := sc_is_state
  refine S.cal (k := 4) sc (SpW.len fun ds h P z => by obtain ⟨_, rfl, _⟩ := z; rfl) (fun f cdv A outer s H vs Q E hr h => ⟨_, (pss_cons (ps_if (PW.pt (pw_or (pt_not (pt_val (pe_callB (k_isi (K := K) rfl) (by rfl) T.n_isinstance (by decide +kernel) (pa_cons (pv 0) (pa_cons (pe_bltn (v := .ty "tuple") (by rfl) T.n_tuple (by decide +kernel) rfl) pa_nil))))) (pw_or1 (pt_cmpR op_ne (pe_callB (k_len_seq (K := K) rfl) (by rfl) T.n_len PySem.boot_len (pa_cons (pv 0) pa_nil)) pe_int (nomark _))))) (pss_one (ps_ret pe_bl)) pss_nil)
  (pss_cons (ps_asg (pv 0) (k_pg_tup (K := K) (n := 3) rfl rfl (pgs_cons (pg_name (i := 1) sc.nd rfl (by first | exact Or.inl rfl | exact Or.inr rfl)) (pgs_cons (pg_name (i := 2) sc.nd rfl (by first | exact Or.inl rfl | exact Or.inr rfl)) (pgs_cons (pg_name (i := 3) sc.nd rfl (by first | exact Or.inl rfl | exact Or.inr rfl)) pgs_nil)))))
  (pss_cons (ps_if (PW.pt (pw_or (pt_not (pt_val (pe_callB (k_isi (K := K) rfl) (by rfl) T.n_isinstance (by decide +kernel) (pa_cons (pv 1) (pa_cons (pe_bltn (v := .ty "tuple") (by rfl) T.n_tuple (by decide +kernel) rfl) pa_nil))))) (pw_or1 (pt_not (pt_val (pe_callB (k_isi (K := K) rfl) (by rfl) T.n_isinstance (by decide +kernel) (pa_cons (pv 2) (pa_cons (pe_bltn (v := .ty "tuple") (by rfl) T.n_tuple (by decide +kernel) rfl) pa_nil)))))))) (pss_one (ps_ret pe_bl)) pss_nil)
  (pss_cons (ps_if (PW.pt (pw_or (pt_not (pt_chain op_le op_le pe_int (pe_callB (k_len_seq (K := K) rfl) (by rfl) T.n_len PySem.boot_len (pa_cons (pv 1) pa_nil)) (pe_gl rfl T.c_MOST_CELLS))) (pw_or (pt_not (pt_chain op_le op_le pe_int (pe_callB (k_len_seq (K := K) rfl) (by rfl) T.n_len PySem.boot_len (pa_cons (pv 2) pa_nil)) (pe_gl rfl T.c_MOST_SLOTS))) (pw_or (pt_not (pt_val (pe_cal C_is_count (hr.mono (by first | decide | omega)) rfl pass0 (pa_cons (pv 3) pa_nil)))) (pw_or1 (pt_cmpR op_gt (pv 3) (pe_callB (k_len_seq (K := K) rfl) (by rfl) T.n_len PySem.boot_len (pa_cons (pv 1) pa_nil)) (nomark _))))))) (pss_one (ps_ret pe_bl)) pss_nil)
  (pss_cons (ps_if (PW.pt (pw_or (pt_not (pt_val (pe_callB (k_all (K := K) rfl rfl) (by rfl) T.n_all (by decide +kernel) (pa_cons (pe_lc (own := [("item", 4)]) rfl sc.nd (k_pi_tup (K := K) rfl (pv 1)) (blkOk_by (by first | decide +kernel | kernel_rfl)) (fun _ _ _ _ _ => (pg_name (i := 4) sc.nd rfl (by first | exact Or.inl rfl | exact Or.inr rfl))) (fun _ _ _ _ _ => pts_nil) (fun _ _ _ _ _ => (pe_cal C_is_value (hr.mono (by first | decide | omega)) rfl pass0 (pa_cons (pv 4) pa_nil)))) pa_nil)))) (pw_or1 (pt_not (pt_val (pe_callB (k_all (K := K) rfl rfl) (by rfl) T.n_all (by decide +kernel) (pa_cons (pe_lc (own := [("row", 5)]) rfl sc.nd (k_pi_tup (K := K) rfl (pv 2)) (blkOk_by (by first | decide +kernel | kernel_rfl)) (fun _ _ _ _ _ => (pg_name (i := 5) sc.nd rfl (by first | exact Or.inl rfl | exact Or.inr rfl))) (fun _ _ _ _ _ => pts_nil) (fun _ _ _ _ _ => (pe_cal C_is_row (hr.mono (by first | decide | omega)) rfl pass0 (pa_cons (pv 5) pa_nil)))) pa_nil))))))) (pss_one (ps_ret pe_bl)) pss_nil)
  (pss_one (ps_ret (pe_cal C_is_sound (hr.mono (by first | decide | omega)) rfl pass0 (pa_cons (pv 2) (pa_cons (pv 3) pa_nil)))))))))), h.enter fun ds lh P hD => ?_⟩)
  obtain ⟨m, rfl, Fm, hk⟩ := hD
  have Sn := Fm.snd
  have rc := Sn.rc
  have ac := Sn.ac
  have e0 := Sn.e0
  have eL := Sn.eL
  have a1 := Fm.a1
  have r1 := Fm.r1
  refine wSeq_step fun B hB => ?_
  simp [stateD]
  subst hB
  refine wSeq_step fun B hB => ?_
  simp [tv]
  subst hB
  refine wSeq_step fun B hB => ?_
  simp
  subst hB
  refine wSeq_step fun B hB => ?_
  simp
  have g1 : (1 : Int) ≤ (m.ar.length : Int) := by omega
  have g2 : (m.ar.length : Int) ≤ 10000 := by omega
  have g3 : (1 : Int) ≤ (m.rows.length : Int) := by omega
  have g4 : (m.rows.length : Int) ≤ 1000 := by omega
  have g5 : ¬ (m.ar.length : Int) < m.e := by omega
  have ne : Nr (.int m.e) := trivial
  simp [g1, g2, g3, g4, g5, D_is_count, ne, isCnt, e0]
  subst hB
  refine wSeq_step fun B hB => ?_
  simp
  refine lcL_id (fun _ => .bool true) trivial (by omega) (fun d hd F hF => ?_) ?_
  · have hv := Fm.vals d hd
    have hn := nr_val hv
    simp [D_is_value, hv, hn]
    exact hF
  · refine ⟨_, boolL_mapF _ _, ?_⟩
    have e1 : (m.ar.map fun _ => true).all id = true := by simp
    rw [e1, wCond_t]
    refine lcL_map (fun _ => .bool true) trivial (by omega) (fun r hr F hF => ?_) ?_
    · simp
      exact ⟨r, rfl, Fm.rows r hr, hF⟩
    · refine ⟨_, boolL_mapF _ _, ?_⟩
      have e2 : (m.rows.map fun _ => true).all id = true := by simp
      rw [e2, wCond_t]
      subst hB
      simp
      exact ⟨m, rfl, Sn, hk⟩
/-- the first k rows taken over -/
def takM (m0 m : Mem) (k : Nat) : Mem := ⟨m.ar, m.rows.take k ++ m0.rows.drop k, m.e⟩
theorem takM_row {m0 m : Mem} {k j : Nat} (hl : m0.rows.length = m.rows.length) (hk : k ≤ m.rows.length) : (takM m0 m k).row j = if j < k then m.row j else m0.row j := by
  unfold takM Mem.row
  simp only [List.getD]
  by_cases c : j < k
  · rw [if_pos c, List.getElem?_append_left (by rw [List.length_take]; omega), List.getElem?_take_of_lt c]
  · rw [if_neg c, List.getElem?_append_right (by rw [List.length_take]; omega), List.length_take, List.getElem?_drop]
    congr 2
    omega
theorem takM_0 {m0 m : Mem} : takM m0 m 0 = ⟨m.ar, m0.rows, m.e⟩ := by simp [takM]
theorem takM_all {m0 m : Mem} (hl : m0.rows.length = m.rows.length) : takM m0 m m.rows.length = m := by
  unfold takM
  rw [List.take_length, ← hl, List.drop_length, List.append_nil]
theorem takM_succ {m0 m : Mem} {k : Nat} (hl : m0.rows.length = m.rows.length) (hk : k < m.rows.length) : (takM m0 m k).put k (m.row k) = takM m0 m (k + 1) := by
  unfold takM Mem.put
  simp only [Mem.mk.injEq, true_and, and_true]
  refine List.ext_getElem? fun j => ?_
  have e : m.row k = m.rows[k] := by simp [Mem.row, List.getD, hk]
  rw [List.set_append_right _ _ (by rw [List.length_take]; omega)]
  rcases Nat.lt_or_ge j k with h | h
  · rw [List.getElem?_append_left (by rw [List.length_take]; omega), List.getElem?_append_left (by rw [List.length_take]; omega), List.getElem?_take_of_lt h, List.getElem?_take_of_lt (by omega)]
  · rw [List.getElem?_append_right (by rw [List.length_take]; omega), List.length_take, Nat.min_eq_left (by omega)]
    rcases Nat.eq_or_lt_of_le h with h2 | h2
    · subst h2
      rw [List.getElem?_append_left (by rw [List.length_take]; omega), List.getElem?_take_of_lt (by omega)]
      have : (List.drop k m0.rows).length ≠ 0 := by rw [List.length_drop]; omega
      simp [e, hk, hl, List.getElem?_set]
      omega
    · rw [List.getElem?_append_right (by rw [List.length_take]; omega), List.length_take, Nat.min_eq_left (by omega), List.getElem?_set_ne (by omega), List.getElem?_drop, List.getElem?_drop]
      congr 1
      omega
def D_take (C E : Addr) (ds : List PyData) (h : Lh) (P : Wv) : Prop := ∃ m0 m p, ds = [rf p.a, stateD m] ∧ MemK C E m0 p h ∧ m0.rows.length = m.rows.length ∧ m.rows.length ≤ 1000 ∧ m.ar.length ≤ 10000 ∧ ∀ q h', q.a = p.a → MemK C E m q h' → Gp p.F h q.F h' → P .none h'
theorem cal_take (S : SrcM K C "take" "Memory.take" st_Memory_take ["self", "state"]) (T : Txt K mg) (MT : MTxt K C) (ET : ETxt K E) : CalM P w K mg base CX0 1 C "take" ["self", "state"] (SpW K (D_take C E)) := by
  have sc := sc_Memory_take
  refine S.cal (k := 0) sc (SpW.len fun ds h P z => by obtain ⟨_, _, _, rfl, _⟩ := z; rfl) (fun f cdv A outer s H vs Q E' hr h => ⟨_, (pss_cons (ps_asg (pv 1) (k_pg_tup (K := K) (n := 3) rfl rfl (pgs_cons (pg_name (i := 2) sc.nd rfl (by first | exact Or.inl rfl | exact Or.inr rfl)) (pgs_cons (pg_name (i := 3) sc.nd rfl (by first | exact Or.inl rfl | exact Or.inr rfl)) (pgs_cons (k_pg_fld (K := K) rfl (pv 0)) pgs_nil)))))
  (pss_cons (k_psfld (K := K) rfl (pv 0) (pe_ref (pe_callTy (k_list_of (K := K) rfl) (by rfl) T.n_list (by decide +kernel) (pa_cons (pv 2) pa_nil))) rfl)
  (pss_one (ps_for PassesOwn.never rfl (k_pi_zipL (K := K) rfl (by rfl) T.n_zip (pa_cons (k_fld (K := K) rfl (pv 0) rfl) (pa_cons (pv 3) pa_nil))) (k_pg_tup (K := K) (n := 2) rfl rfl (pgs_cons (pg_name (i := 4) sc.nd rfl (by first | exact Or.inl rfl | exact Or.inr rfl)) (pgs_cons (pg_name (i := 5) sc.nd rfl (by first | exact Or.inl rfl | exact Or.inr rfl)) pgs_nil))) (pss_cons (ps_asg (pe_slice (k_sl_tupA (K := K) rfl) (pv 5) po_none (po_some pe_int)) (k_pg_tup (K := K) (n := 7) rfl rfl (pgs_cons (k_pg_fld (K := K) rfl (pv 4)) (pgs_cons (k_pg_fld (K := K) rfl (pv 4)) (pgs_cons (k_pg_fld (K := K) rfl (pv 4)) (pgs_cons (k_pg_fld (K := K) rfl (pv 4)) (pgs_cons (k_pg_fld (K := K) rfl (pv 4)) (pgs_cons (k_pg_fld (K := K) rfl (pv 4)) (pgs_cons (k_pg_fld (K := K) rfl (pv 4)) pgs_nil)))))))))
  (pss_one (ps_asg (pe_slice (k_sl_tupA (K := K) rfl) (pv 5) (po_some pe_int) po_none) (k_pg_tup (K := K) (n := 2) rfl rfl (pgs_cons (k_pg_fld (K := K) rfl (pv 4)) (pgs_cons (k_pg_fld (K := K) rfl (pv 4)) pgs_nil)))))))))), h.enter fun ds lh P hD => ?_⟩)
  obtain ⟨m0, m, p, rfl, A0, hl, rc, ac, hk⟩ := hD
  have T0 := Tk.start A0.at_
  have A1 := A0.putE m.e
  refine wSeq_step fun B hB => ?_
  simp [stateD, tv, A0.a, MT.cl, MT.n0, MT.n1, MT.n2]
  subst hB
  refine wSeq_step fun B hB => ?_
  simp [tv]
  intro ar' har
  have T1 := T0.put (a := p.a) (o := mo C p m0.e) (u := mo C p m.e) 0 rfl
  have T2 := T1.new (q := ar') (u := .lst m.ar) har
  have T3 := T2.put (a := p.a) (o := mo C p m.e) (u := mo C { p with ar := ar' } m.e) 0 rfl
  have T4 := Tk.repl (a := [ceR p.a (mo C { p with ar := ar' } m.e)]) (r := ceR p.ar (.lst m0.ar)) (r' := ceR ar' (.lst m.ar)) (b := ceR p.tb (.lst (p.es.map fun x => rf x)) :: (List.range p.es.length).map fun i => ceR (p.es.getD i 0) (.ins E (m0.row i).f)) T3
  have ne : p.a ≠ ar' := fun z => by rw [← z] at har; simp at har
  refine ⟨C, [("_arena", rf p.ar), ("_table", rf p.tb), ("_end", .int m.e)], by rw [up_ne ne, up_same], MT.cl, MT.n0, by simp, ?_⟩
  have A4 : MemK C E (takM m0 m 0) { p with ar := ar' } (up (up (up lh p.a (mo C p m.e)) ar' (.lst m.ar)) p.a (mo C { p with ar := ar' } m.e)) := ⟨by rw [takM_0]; exact T4.at_, by rw [takM_0]; exact A0.len⟩
  have G4 : Gp p.F lh ({ p with ar := ar' } : Mp).F (up (up (up lh p.a (mo C p m.e)) ar' (.lst m.ar)) p.a (mo C { p with ar := ar' } m.e)) := by
    have := T4.gp
    rw [show Fs (cells C E m0 p) = p.F from Fs_cells] at this
    have e : Fs ([ceR p.a (mo C { p with ar := ar' } m.e)] ++ ceR ar' (.lst m.ar) :: ceR p.tb (.lst (p.es.map fun x => rf x)) :: (List.range p.es.length).map fun i => ceR (p.es.getD i 0) (.ins E (m0.row i).f)) = ({ p with ar := ar' } : Mp).F := Fs_cells (C := C) (E := E) (m := ⟨m.ar, m0.rows, m.e⟩) (p := { p with ar := ar' })
    rw [e] at this
    exact this
  have eu : (LO.ins C (putFD "_arena" (rf ar') [("_arena", rf p.ar), ("_table", rf p.tb), ("_end", .int m.e)])) = mo C { p with ar := ar' } m.e := by rfl
  rw [eu]
  generalize up (up (up lh p.a (mo C p m.e)) ar' (.lst m.ar)) p.a (mo C { p with ar := ar' } m.e) = h4 at A4 G4
  generalize hq : ({ p with ar := ar' } : Mp) = q at A4 G4
  have qa : q.a = p.a := by rw [← hq]
  clear hq eu T1 T2 T3 T4 T0 A1 har ne
  subst hB
  have a4 : h4 p.a = some (mo C q m.e) := by rw [← qa]; exact A4.a
  have ql := A4.len
  have ql : q.es.length = m.rows.length := by rw [ql]; simp [takM]; omega
  have lt4 : Wl.lv h4 (rf q.tb) = some (q.es.map fun x => rf x) := A4.lt
  simp [a4, MT.cl, MT.n1, tv, A4.tbl]
  refine ⟨ql, ?_⟩
  have ez : zipD (q.es.map fun x => rf x) (m.rows.map fun r => PyData.tuple r.ds) = (List.range q.es.length).map fun i => PyData.tuple [rf (q.es.getD i 0), .tuple (m.row i).ds] := by
    refine List.ext_getElem (by simp [zipD, ql]) fun i h1 h2 => ?_
    have h3 : i < q.es.length := by simpa using h2
    simp [zipD, Mem.row, List.getD, h3, ← ql]
  rw [ez]
  refine forL_run (fun ds ρ h => ∃ (k : Nat) (o4 o5 : Option PyData), k ≤ m.rows.length ∧ ds = ((List.range q.es.length).drop k).map (fun i => PyData.tuple [rf (q.es.getD i 0), .tuple (m.row i).ds]) ∧ ρ = [some (rf p.a), some (stateD m), some (.tuple m.ar), some (.tuple (rowsD m)), o4, o5] ∧ MemK C E (takM m0 m k) q h ∧ Gp p.F lh q.F h) ?_ ?_ ⟨0, none, none, Nat.zero_le _, rfl, rfl, A4, G4⟩
  · rintro d ds ρ h ⟨k, o4, o5, hk1, eds, rfl, A5, G5⟩
    rcases Nat.lt_or_ge k q.es.length with hlt | hge
    · rw [List.drop_eq_getElem_cons (by simpa using hlt)] at eds
      simp only [List.getElem_range, List.map_cons, List.cons.injEq] at eds
      obtain ⟨rfl, rfl⟩ := eds
      refine ⟨by simp [A5.tbl], fun F hF => ?_⟩
      rw [getD_es hlt]
      have en := A5.en k hlt
      rw [takM_row hl (by omega), if_neg (Nat.lt_irrefl k)] at en
      have A6 := A5.putRow k hlt (m.row k)
      rw [takM_succ hl (by omega)] at A6
      have G6 : Gp p.F lh q.F (up h q.es[k] (.ins E (m.row k).f)) := G5.trans ⟨Kp.put (Mp.mem_es hlt), fun x hx => .inl hx⟩
      have go := hF [some (rf p.a), some (stateD m), some (.tuple m.ar), some (.tuple (rowsD m)), some (rf q.es[k]), some (.tuple (m.row k).ds)] _ ⟨k + 1, _, _, by omega, rfl, rfl, A6, G6⟩
      simp [tv, en, ET.cl, ET.n0, ET.n1, ET.n2, ET.n3, ET.n4, ET.n5, ET.n6, ET.n7, ET.n8]
      have c1 : Pd.cutD (m.row k).ds none (some 7) = [.int (m.row k).stamp, .bool (m.row k).live, .int (m.row k).size, .int (m.row k).start, .int (m.row k).filled, oI (m.row k).to, .int (m.row k).done] := by rfl
      have c2 : Pd.cutD (m.row k).ds (some 7) none = [.int (m.row k).mark, .bool (m.row k).black] := by rfl
      rw [c1, c2]
      refine ⟨rfl, _, _, rfl, _, _, rfl, _, _, rfl, _, _, rfl, _, _, rfl, _, _, rfl, _, _, rfl, rfl, rfl, _, _, rfl, _, _, rfl, rfl, ?_⟩
      exact go
    · rw [List.drop_of_length_le (by simpa using hge)] at eds
      cases eds
  · rintro ρ h ⟨k, o4, o5, hk1, eds, rfl, A5, G5⟩
    have : k = m.rows.length := by
      rcases Nat.lt_or_ge k q.es.length with hlt | hge
      · rw [List.drop_eq_getElem_cons (by simpa using hlt)] at eds
        cases eds
      · omega
    rw [this, takM_all hl] at A5
    exact ⟨by simp [A5.tbl], hk q h qa A5 G5⟩
def D_restored (C E : Addr) (ds : List PyData) (h : Lh) (P : Wv) : Prop := ∃ m : Mem, ds = [stateD m] ∧ Fin m ∧ ∀ p h', MemK C E m p h' → Gp [] h p.F h' → P (rf p.a) h'
theorem cal_restored (S : Src K mg "restored" st_restored ["state"]) (T : Txt K mg) (MT : MTxt K C) (C_is_state : Cal P w K mg base CX0 5 "is_state" ["value"] (SpW K D_is_state)) (C_Memory : CalC P w K mg base CX0 3 "Memory" C ["self", "cells", "slots"] (SpW K (D_Minit C E))) (M_take : CalM P w K mg base CX0 1 C "take" ["self", "state"] (SpW K (D_take C E))) : Cal P w K mg base CX0 6 "restored" ["state"] (SpW K (D_restored C E)) := by
  have sc := sc_restored
  refine S.cal (k := 5) sc (SpW.len fun ds h P z => by obtain ⟨_, rfl, _⟩ := z; rfl) (fun f cdv A outer s H vs Q E' hr h => ⟨_, (pss_cons (ps_if (pt_not (pt_val (pe_cal C_is_state (hr.mono (by first | decide | omega)) rfl pass0 (pa_cons (pv 0) pa_nil)))) (pss_one Wl.ps_never) pss_nil)
  (pss_cons (ps_set (i := 1) sc.nd rfl (by first | exact Or.inl rfl | exact Or.inr rfl) (pe_mkC C_Memory (hr.mono (by first | decide | omega)) rfl pass0 (pa_cons (pe_callB (k_len_seq (K := K) rfl) (by rfl) T.n_len PySem.boot_len (pa_cons (pe_ix (k_ix_tup (K := K) rfl) (pv 0) pe_int (fun _ _ => rfl)) pa_nil)) (pa_cons (pe_callB (k_len_seq (K := K) rfl) (by rfl) T.n_len PySem.boot_len (pa_cons (pe_ix (k_ix_tup (K := K) rfl) (pv 0) pe_int (fun _ _ => rfl)) pa_nil)) pa_nil))))
  (pss_cons (ps_expr (pe_calM M_take MT.cl (hr.mono (by first | decide | omega)) pass0 (pv 1) (pa_cons (pv 0) pa_nil)))
  (pss_one (ps_ret (pv 1)))))), h.enter fun ds lh P hD => ?_⟩)
  obtain ⟨m, rfl, Fm, hk⟩ := hD
  have Sn := Fm.snd
  have rc := Sn.rc
  have ac := Sn.ac
  have a1 := Fm.a1
  have r1 := Fm.r1
  refine wSeq_step fun B hB => ?_
  simp
  refine ⟨m, rfl, Fm, ?_⟩
  simp
  subst hB
  refine wSeq_step fun B hB => ?_
  simp [stateD, tv]
  intro a ha
  refine ⟨a, m.ar.length, m.rows.length, rfl, up_same, by omega, by omega, by omega, by omega, fun p h1 pa M1 g1 => ⟨rfl, ?_⟩⟩
  subst pa
  subst hB
  simp [M1.a, MT.cl]
  refine ⟨_, m, p, rfl, M1, by simp [mem0], by omega, by omega, fun q h2 qa M2 g2 => ?_⟩
  have g0 : Gp [] lh [p.a] (up lh p.a (.ins C [])) := by
    have := ((Tk.nil lh).new (u := .ins C []) ha).gp
    simpa [Fs, ceR] using this
  show P (rf p.a) h2
  rw [← qa]
  exact hk q h2 M2 ((g0.trans g1).trans g2)
end
end K15
set_option Elab.async false
set_option linter.all false
set_option maxRecDepth 100000
set_option maxHeartbeats 1000000
namespace K15
open PySem PySem.Spec PyProof.Rows L2 Evl Pd Wl Mm
def Cn (m : Mem) : Prop := ∀ r ∈ m.rows, RowC r
theorem Cn.put {m m1 : Mem} {i : Nat} {r : Mm.Row} (h : Cn m) (e : m1.rows = m.rows) (hr : RowC r) : Cn (m1.put i r) := fun r' hr' => by
  rcases List.mem_or_eq_of_mem_set hr' with h1 | h1
  · rw [e] at h1; exact h r' h1
  · rw [h1]; exact hr
theorem Cn.row {m : Mem} (h : Cn m) {i : Nat} (hi : i < m.rows.length) : RowC (m.row i) := by
  have : m.row i = m.rows[i] := by simp [Mem.row, List.getD, hi]
  rw [this]
  exact h _ (List.getElem_mem hi)
def CnO (o : Out) : Prop := Cn o.2
theorem doO_cnt {m : Mem} (O : MOk m) (N : Cn m) {x : Ca} (hx : CaOk x) : Cn (doO m x).2 := by
  have S := O.snd
  unfold doO
  cases hk : x.k with
  | reserve =>
    obtain ⟨s, hs, s1, s2⟩ := hx.res hk
    simp only [hs, numI]
    unfold reserveO
    split
    · split
      · next i hd =>
        obtain ⟨hi, hl⟩ := dead_some hd
        have R := N.row hi
        exact N.put (m1 := m) rfl ⟨R.stamp, by show 0 ≤ s; omega, S.e0, Int.le_refl _, Int.le_refl _, Int.le_refl _, fun t z => nomatch z⟩
      · exact N
    · exact N
  | fill =>
    simp only
    unfold fillO
    split
    · exact N
    · next i hi =>
      obtain ⟨_, h1, h2, _⟩ := atHdl_lt hi
      have R := N.row h1
      simp only
      split
      · exact N
      · exact N.put rfl ⟨R.stamp, R.size, R.start, by have := R.filled; show 0 ≤ (m.row i).filled + 1; omega, R.done, R.mark, R.to⟩
  | write =>
    simp only
    unfold writeO
    split
    · exact N
    · simp only
      split
      · split
        · exact N
        · exact N
      · exact N
  | read =>
    simp only
    unfold readO
    split
    · exact N
    · simp only
      split <;> exact N
  | free =>
    simp only
    unfold freeO
    split
    · exact N
    · next i hi =>
      obtain ⟨_, h1, h2⟩ := atSlot_lt' hi
      have R := N.row h1
      simp only
      split
      · exact N
      · exact N.put (m1 := m) rfl ⟨by have := R.stamp; show 0 ≤ (m.row i).stamp + 1; omega, R.size, R.start, R.filled, R.done, R.mark, R.to⟩
  | begin_ =>
    simp only
    unfold beginO
    split
    · exact N
    · next i hi =>
      obtain ⟨_, h1, h2⟩ := atSlot_lt' hi
      have R := N.row h1
      simp only
      split
      · exact N
      · next c1 =>
        split
        · exact N
        · simp only [Bool.or_eq_true, not_or, Bool.not_eq_true, Bool.not_eq_eq_eq_not, Bool.not_false] at c1
          obtain ⟨c1, c3⟩ := c1
          obtain ⟨t, ht, t0, t1⟩ : ∃ t : Int, x.b = .int t ∧ 0 ≤ t ∧ t < (m.row i).start := by
            cases hb : x.b with
            | int t => rw [hb] at c3; simp [isTo] at c3; exact ⟨t, rfl, c3.1, c3.2⟩
            | _ => rw [hb] at c3; simp [isTo] at c3
          rw [ht]
          exact N.put (m1 := m) rfl ⟨R.stamp, R.size, R.start, R.filled, Int.le_refl _, R.mark, fun t' z => by cases z; exact t0⟩
  | copy =>
    simp only
    unfold copyO
    split
    · exact N
    · next i hi =>
      obtain ⟨_, h1, h2⟩ := atSlot_lt' hi
      have R := N.row h1
      simp only
      split
      · exact N
      · split
        · exact N
        · exact N.put rfl ⟨R.stamp, R.size, R.start, R.filled, by have := R.done; show 0 ≤ (m.row i).done + 1; omega, R.mark, R.to⟩
  | turn =>
    simp only
    unfold turnO
    split
    · exact N
    · next i hi =>
      obtain ⟨_, h1, h2⟩ := atSlot_lt' hi
      have R := N.row h1
      simp only
      split
      · exact N
      · next t ht =>
        split
        · exact N
        · exact N.put (m1 := m) rfl ⟨R.stamp, R.size, R.to t ht, R.filled, Int.le_refl _, R.mark, fun t' z => nomatch z⟩
  | settle =>
    simp only
    unfold settleO
    split
    · exact N
    · split
      · exact N
      · exact N
/-- what the law's memories always are -/
structure Ok (m : Mem) : Prop where
  ok : MOk m
  cn : Cn m
  a1 : 1 ≤ m.ar.length
  r1 : 1 ≤ m.rows.length
theorem Ok.fin {m : Mem} (O : Ok m) : Fin m := ⟨O.ok.snd, O.ok.vals, O.cn, O.a1, O.r1⟩
theorem Ok.do {m : Mem} (O : Ok m) {x : Ca} (hx : CaOk x) : Ok (doO m x).2 := by
  obtain ⟨a, b, c, _⟩ := doO_ok O.ok hx
  exact ⟨a, doO_cnt O.ok O.cn hx, by rw [c]; exact O.a1, by rw [b]; exact O.r1⟩
def doA (m : Mem) (xs : List Ca) : Mem := xs.foldl (fun m x => (doO m x).2) m
theorem doA_snoc (m : Mem) (xs : List Ca) (x : Ca) : doA m (xs ++ [x]) = (doO (doA m xs) x).2 := by simp [doA]
theorem doA_app (m : Mem) (xs ys : List Ca) : doA m (xs ++ ys) = doA (doA m xs) ys := by simp [doA]
theorem Ok.all {m : Mem} (O : Ok m) : ∀ {xs : List Ca}, (∀ x ∈ xs, CaOk x) → Ok (doA m xs)
  | [], _ => O
  | x :: xs, h => Ok.all (m := (doO m x).2) (O.do (h x (List.mem_cons_self ..))) fun y hy => h y (List.mem_cons_of_mem _ hy)
/-- what the calls tell -/
def tolds (m : Mem) : List Ca → List PyData
  | [] => []
  | x :: xs => wD (doO m x).1 :: tolds (doO m x).2 xs
theorem tolds_len : ∀ (m : Mem) (xs : List Ca), (tolds m xs).length = xs.length
  | _, [] => rfl
  | m, x :: xs => by simp [tolds, tolds_len _ xs]
theorem tolds_snoc : ∀ (m : Mem) (xs : List Ca) (x : Ca), tolds m (xs ++ [x]) = tolds m xs ++ [wD (doO (doA m xs) x).1]
  | _, [], _ => rfl
  | m, y :: xs, x => by
    show _ :: tolds _ (xs ++ [x]) = _
    rw [tolds_snoc _ xs x]; rfl
theorem tolds_get : ∀ (m : Mem) (xs : List Ca) (k : Nat) (hk : k < xs.length), (tolds m xs)[k]? = some (wD (doO (doA m (xs.take k)) xs[k]).1)
  | m, x :: xs, 0, _ => rfl
  | m, x :: xs, k + 1, h => by
    have := tolds_get (doO m x).2 xs k (by simpa using h)
    simpa [tolds, doA] using this
end K15
set_option Elab.async false
set_option linter.all false
set_option maxRecDepth 100000
set_option maxHeartbeats 4000000
set_option synthInstance.maxHeartbeats 1000000
set_option synthInstance.maxSize 1000000
namespace K15
open PySem PySem.Spec PyProof.Rows L2 Evl Pd Wl Mm
section
variable {P : Program} {w : World} {K : PySem.W.Frag} {mg : Str → Option Value} {base : Heap} {C E : Addr} {x : XA}
abbrev scD (ns : List Int) : PyData := .dict [(.none, .tuple (ns.map PyData.int))]
def D_cell (ds : List PyData) (h : Lh) (P : Wv) : Prop := ∃ ns k, ds = [scD ns, .int k] ∧ 0 ≤ k ∧ ∀ r, P (.int r) h
theorem cal_cell (S : Src K mg "_law_cell" st__law_cell ["script", "k"]) (T : Txt K mg) : Cal P w K mg base CX0 1 "_law_cell" ["script", "k"] (SpW K D_cell) := by
  have sc := sc__law_cell
  refine S.cal (k := 0) sc (SpW.len fun ds h P z => by obtain ⟨_, _, rfl, _⟩ := z; rfl) (fun f cdv A outer s H vs Q E0 hr h => ⟨_, (pss_cons (ps_if (pt_cmpR op_lt (pv 1) (pe_callB (k_len_seq (K := K) rfl) (by rfl) T.n_len PySem.boot_len (pa_cons (pv 0) pa_nil)) (nomark _)) (pss_one (ps_ret (pe_callTy call_int1 (by rfl) T.n_int (by decide +kernel) (pa_cons (pe_ix (k_ix_list (K := K) rfl) (pv 0) (pv 1) (fun _ _ => rfl)) pa_nil)))) pss_nil)
  (pss_one (ps_ret pe_int))), h.enter fun ds lh P hD => ?_⟩)
  obtain ⟨ns, k, rfl, k0, hk⟩ := hD
  simp
  refine wCond.p (fun c => ?_) fun c => ?_
  · obtain ⟨j, rfl⟩ : ∃ j : Nat, k = (j : Int) := ⟨k.toNat, by omega⟩
    have hj : j < ns.length := by omega
    have e : atI (ns.map PyData.int) (j : Int) = some (.int ns[j]) := atI_nat (by simp [hj])
    simp [e]
    exact hk _
  · exact hk 0
def D_rich (ds : List PyData) (h : Lh) (P : Wv) : Prop := ∃ c k, ds = [.int c, .int k] ∧ ∀ r, 0 ≤ r → P (.int r) h
theorem cal_rich (S : Src K mg "_law_rich" st__law_rich ["cell", "k"]) (T : Txt K mg) : Cal P w K mg base CX0 1 "_law_rich" ["cell", "k"] (SpW K D_rich) := by
  have sc := sc__law_rich
  refine S.cal (k := 0) sc (SpW.len fun ds h P z => by obtain ⟨_, _, rfl, _⟩ := z; rfl) (fun f cdv A outer s H vs Q E0 hr h => ⟨_, (pss_cons (ps_if (pt_cmpR op_ge (pv 0) (pe_op op_pow pe_int pe_int) (nomark _)) (pss_one (ps_ret (pe_callTy call_int1 (by rfl) T.n_int (by decide +kernel) (pa_cons (pv 0) pa_nil)))) pss_nil)
  (pss_cons (ps_set (i := 2) sc.nd rfl (by first | exact Or.inl rfl | exact Or.inr rfl) pe_int)
  (pss_cons (ps_set (i := 3) sc.nd rfl (by first | exact Or.inl rfl | exact Or.inr rfl) (pe_op op_mod (pe_callTy call_int1 (by rfl) T.n_int (by decide +kernel) (pa_cons (pe_op op_add (pe_op op_add (pe_op op_mul (pv 0) pe_int) (pe_op op_mul (pv 1) pe_int)) pe_int) pa_nil)) pe_int))
  (pss_cons (ps_for PassesOwn.never rfl (pi_range1 (by rfl) T.n_range (pa_cons pe_int pa_nil)) (pg_name (i := 4) sc.nd rfl (by first | exact Or.inl rfl | exact Or.inr rfl)) (pss_cons (ps_set (i := 3) sc.nd rfl (by first | exact Or.inl rfl | exact Or.inr rfl) (pe_op op_mod (pe_callTy call_int1 (by rfl) T.n_int (by decide +kernel) (pa_cons (pe_op op_add (pe_op op_add (pe_op op_add (pe_op op_mul (pv 3) (pv 3)) (pe_op op_mul (pv 3) pe_int)) (pv 4)) pe_int) pa_nil)) pe_int))
  (pss_one (ps_set (i := 2) sc.nd rfl (by first | exact Or.inl rfl | exact Or.inr rfl) (pe_op op_add (pe_op op_mul (pv 2) pe_int) (pv 3))))))
  (pss_one (ps_ret (pv 2))))))), h.enter fun ds lh P hD => ?_⟩)
  obtain ⟨c, k, rfl, hk⟩ := hD
  simp
  refine wCond.p (fun c0 => ?_) fun c0 => ?_
  · exact hk _ (by omega)
  · refine ⟨by simp [CMul], by simp [CMul], ?_⟩
    refine forL_run (fun ds ρ h => h = lh ∧ (∀ d ∈ ds, ∃ i : Int, d = .int i) ∧ ∃ (r x : Int) (o : Option PyData), 0 ≤ r ∧ 0 ≤ x ∧ x < 2147483647 ∧ ρ = [some (.int c), some (.int k), some (.int r), some (.int x), o]) ?_ ?_ ⟨rfl, fun d hd => by simp [rgD] at hd; obtain ⟨i, _, rfl⟩ := hd; exact ⟨_, rfl⟩, 0, _, none, by omega, by omega, by omega, rfl⟩
    · rintro d ds ρ h ⟨rfl, hall, r, x, o, r0, x0, x1, rfl⟩
      obtain ⟨i, rfl⟩ := hall d (List.mem_cons_self ..)
      refine ⟨trivial, fun F hF => ?_⟩
      simp
      refine ⟨.inl (by omega), by simp [CMul], by simp [CMul], ?_⟩
      exact hF _ _ ⟨rfl, fun d hd => hall d (List.mem_cons_of_mem _ hd), _, _, _, by omega, by omega, by omega, rfl⟩
    · rintro ρ h ⟨rfl, _, r, x, o, r0, x0, x1, rfl⟩
      refine ⟨trivial, ?_⟩
      simp
      exact hk r r0
end
end K15
set_option Elab.async false
set_option linter.all false
set_option maxRecDepth 100000
set_option maxHeartbeats 4000000
set_option synthInstance.maxHeartbeats 1000000
set_option synthInstance.maxSize 1000000
namespace K15
open PySem PySem.Spec PyProof.Rows L2 Evl Pd Wl Mm
/-- what is compared with itself -/
inductive Lit : Nat → PyData → Prop
  | non (n : Nat) : Lit (n + 1) .none
  | bool (n : Nat) (b : Bool) : Lit (n + 1) (.bool b)
  | int (n : Nat) (i : Int) : Lit (n + 1) (.int i)
  | str (n : Nat) (s : Str) : PyData.strOk s = true → Lit (n + 1) (.str s)
  | tup (n : Nat) (ds : List PyData) : ds.length ≤ 10000 → (∀ d ∈ ds, Lit n d) → Lit (n + 1) (.tuple ds)
theorem Lit.val {n : Nat} {d : PyData} (h : isVal d = true) : Lit (n + 2) d := by
  unfold isVal at h
  split at h
  · exact .non _
  · exact .int _ _
  · unfold isHdl at h
    split at h
    · next a b =>
      simp at h
      refine .tup _ _ (by simp) fun d hd => ?_
      simp only [List.mem_cons, List.not_mem_nil, or_false] at hd
      have c : ∀ d, isCnt d = true → Lit (n + 1) d := fun d hd => by
        obtain ⟨j, rfl, _⟩ := isCnt_int hd
        exact .int _ _
      rcases hd with rfl | rfl
      · exact c _ h.1
      · exact c _ h.2
    · cases h
theorem sh_str {s : Str} (h : PyData.strOk s = true) : SeqAt.shaped (.str s) = true := by simp [SeqAt.shaped, PyData.canLay0, PyData.depth, h]
section
variable {P : Program} {w : World} {K : PySem.W.Frag} {mg : Str → Option Value} {base : Heap}
def D_same (n : Nat) (ds : List PyData) (h : Lh) (P : Wv) : Prop := ∃ x, ds = [x, x] ∧ Lit n x ∧ P (.bool true) h
theorem same_step {k n : Nat} (S : Src K mg "_law_same" st__law_same ["actual", "due"]) (T : Txt K mg) (C__law_same : Cal P w K mg base CX0 k "_law_same" ["actual", "due"] (SpW K (D_same n))) : Cal P w K mg base CX0 (k + 1) "_law_same" ["actual", "due"] (SpW K (D_same (n + 1))) := by
  have sc := sc__law_same
  refine S.cal (k := k) sc (SpW.len fun ds h P z => by obtain ⟨_, rfl, _⟩ := z; rfl) (fun f cdv A outer s H vs Q E0 hr h => ⟨_, (pss_cons (ps_if (pt_val (pe_callB (k_isi (K := K) rfl) (by rfl) T.n_isinstance (by decide +kernel) (pa_cons (pv 1) (pa_cons (pe_bltn (v := .ty "tuple") (by rfl) T.n_tuple (by decide +kernel) rfl) pa_nil)))) (pss_cons (ps_if (PW.pt (pw_or (pt_not (pt_val (pe_callB (k_isi (K := K) rfl) (by rfl) T.n_isinstance (by decide +kernel) (pa_cons (pv 0) (pa_cons (pe_bltn (v := .ty "tuple") (by rfl) T.n_tuple (by decide +kernel) rfl) pa_nil))))) (pw_or1 (pt_cmpR op_ne (pe_callB (k_len_seq (K := K) rfl) (by rfl) T.n_len PySem.boot_len (pa_cons (pv 0) pa_nil)) (pe_callB (k_len_seq (K := K) rfl) (by rfl) T.n_len PySem.boot_len (pa_cons (pv 1) pa_nil)) (nomark _))))) (pss_one (ps_ret pe_bl)) pss_nil)
  (pss_one (ps_ret (pe_callB (k_all (K := K) rfl rfl) (by rfl) T.n_all (by decide +kernel) (pa_cons (pe_lc (own := [("k", 2)]) rfl sc.nd (pi_range1 (by rfl) T.n_range (pa_cons (pe_callB (k_len_seq (K := K) rfl) (by rfl) T.n_len PySem.boot_len (pa_cons (pv 1) pa_nil)) pa_nil)) (blkOk_by (by first | decide +kernel | kernel_rfl)) (fun _ _ _ _ _ => (pg_name (i := 2) sc.nd rfl (by first | exact Or.inl rfl | exact Or.inr rfl))) (fun _ _ _ _ _ => pts_nil) (fun _ _ _ _ _ => (pe_cal C__law_same (hr.mono (by first | decide | omega)) rfl pass0 (pa_cons (pe_ix (k_ix_tup (K := K) rfl) (pv 0) (pv 2) (fun _ _ => rfl)) (pa_cons (pe_ix (k_ix_tup (K := K) rfl) (pv 1) (pv 2) (fun _ _ => rfl)) pa_nil))))) pa_nil))))) pss_nil)
  (pss_cons (ps_if (pt_val (pe_callB (k_isi (K := K) rfl) (by rfl) T.n_isinstance (by decide +kernel) (pa_cons (pv 1) (pa_cons (pe_bltn (v := .ty "list") (by rfl) T.n_list (by decide +kernel) rfl) pa_nil)))) (pss_cons (ps_if (PW.pt (pw_or (pt_not (pt_val (pe_callB (k_isi (K := K) rfl) (by rfl) T.n_isinstance (by decide +kernel) (pa_cons (pv 0) (pa_cons (pe_bltn (v := .ty "list") (by rfl) T.n_list (by decide +kernel) rfl) pa_nil))))) (pw_or1 (pt_cmpR op_ne (pe_callB (k_len_seq (K := K) rfl) (by rfl) T.n_len PySem.boot_len (pa_cons (pv 0) pa_nil)) (pe_callB (k_len_seq (K := K) rfl) (by rfl) T.n_len PySem.boot_len (pa_cons (pv 1) pa_nil)) (nomark _))))) (pss_one (ps_ret pe_bl)) pss_nil)
  (pss_one (ps_ret (pe_callB (k_all (K := K) rfl rfl) (by rfl) T.n_all (by decide +kernel) (pa_cons (pe_lc (own := [("k", 2)]) rfl sc.nd (pi_range1 (by rfl) T.n_range (pa_cons (pe_callB (k_len_seq (K := K) rfl) (by rfl) T.n_len PySem.boot_len (pa_cons (pv 1) pa_nil)) pa_nil)) (blkOk_by (by first | decide +kernel | kernel_rfl)) (fun _ _ _ _ _ => (pg_name (i := 2) sc.nd rfl (by first | exact Or.inl rfl | exact Or.inr rfl))) (fun _ _ _ _ _ => pts_nil) (fun _ _ _ _ _ => (pe_cal C__law_same (hr.mono (by first | decide | omega)) rfl pass0 (pa_cons (pe_ix (k_ix_tup (K := K) rfl) (pv 0) (pv 2) (fun _ _ => rfl)) (pa_cons (pe_ix (k_ix_tup (K := K) rfl) (pv 1) (pv 2) (fun _ _ => rfl)) pa_nil))))) pa_nil))))) pss_nil)
  (pss_cons (ps_if (pt_cmpR op_isN (pv 1) pe_non (nomark _)) (pss_one (ps_ret (pe_cmpR op_isN (pv 0) pe_non (nomark _)))) pss_nil)
  (pss_cons (ps_if (pt_val (pe_callB (k_isi (K := K) rfl) (by rfl) T.n_isinstance (by decide +kernel) (pa_cons (pv 1) (pa_cons (pe_bltn (v := .ty "str") (by rfl) T.n_str (by decide +kernel) rfl) pa_nil)))) (pss_one (ps_ret (pe_and (pe_callB (k_isi (K := K) rfl) (by rfl) T.n_isinstance (by decide +kernel) (pa_cons (pv 0) (pa_cons (pe_bltn (v := .ty "str") (by rfl) T.n_str (by decide +kernel) rfl) pa_nil))) (pe_one (pe_cmpR (k_eqD (K := K) rfl (hr.units)) (pv 0) (pv 1) (nomark _)))))) pss_nil)
  (pss_cons (ps_if (pt_val (pe_callB (k_isi (K := K) rfl) (by rfl) T.n_isinstance (by decide +kernel) (pa_cons (pv 1) (pa_cons (pe_bltn (v := .ty "bool") (by rfl) T.n_bool (by decide +kernel) rfl) pa_nil)))) (pss_one (ps_ret (pe_and (pe_callB (k_isi (K := K) rfl) (by rfl) T.n_isinstance (by decide +kernel) (pa_cons (pv 0) (pa_cons (pe_bltn (v := .ty "bool") (by rfl) T.n_bool (by decide +kernel) rfl) pa_nil))) (pe_one (pe_cmpR (k_eqD (K := K) rfl (hr.units)) (pv 0) (pv 1) (nomark _)))))) pss_nil)
  (pss_one (ps_ret (pe_and (pe_callB (k_isi (K := K) rfl) (by rfl) T.n_isinstance (by decide +kernel) (pa_cons (pv 0) (pa_cons (pe_bltn (v := .ty "int") (by rfl) T.n_int (by decide +kernel) rfl) pa_nil))) (pe_and (pe_not (pe_callB (k_isi (K := K) rfl) (by rfl) T.n_isinstance (by decide +kernel) (pa_cons (pv 0) (pa_cons (pe_bltn (v := .ty "bool") (by rfl) T.n_bool (by decide +kernel) rfl) pa_nil)))) (pe_one (pe_cmpR (k_eqD (K := K) rfl (hr.units)) (pv 0) (pv 1) (nomark _)))))))))))), h.enter fun ds lh P hD => ?_⟩)
  obtain ⟨x, rfl, hx, hk⟩ := hD
  cases hx with
  | tup _ xs lx hxs =>
    simp
    have er : rgD 0 ((xs.length : Nat) : Int) = (List.range xs.length).map fun (j : Nat) => .int (j : Int) := by simp [rgD]
    rw [er]
    refine ⟨by omega, lcL_map (emb := fun j : Nat => PyData.int (j : Int)) (fun j => .bool true) trivial (by simp; omega) (fun j hj F hF => ?_) ?_⟩
    · have hj1 : j < xs.length := List.mem_range.mp hj
      have e1 : atI xs (j : Int) = some xs[j] := atI_nat (by rw [List.getElem?_eq_getElem hj1])
      simp [e1]
      exact ⟨_, rfl, hxs _ (List.getElem_mem hj1), hF⟩
    · refine ⟨_, boolL_mapF _ _, ?_⟩
      have : ((List.range xs.length).map fun j => true).all id = true := by simp
      rw [this]; exact hk
  | non => simpa using hk
  | bool _ b => simpa [PyData.eqv] using hk
  | int _ i => simpa [PyData.eqv] using hk
  | str _ z hz => simpa [sh_str hz, PyData.eqv] using hk
theorem cal_same (S : Src K mg "_law_same" st__law_same ["actual", "due"]) (T : Txt K mg) : ∀ n, Cal P w K mg base CX0 n "_law_same" ["actual", "due"] (SpW K (D_same n))
  | 0 => cal_none S fun ds h P ⟨_, _, z, _⟩ => by cases z
  | n + 1 => same_step S T (cal_same S T n)
end
end K15
set_option Elab.async false
set_option linter.all false
set_option maxRecDepth 100000
set_option maxHeartbeats 1000000
namespace K15
open PySem PySem.Spec PyProof.Rows L2 Evl Pd Wl Mm
/-! ### what is told -/
inductive Tv : PyData → Prop
  | non : Tv .none
  | bool (b : Bool) : Tv (.bool b)
  | int (i : Int) : Tv (.int i)
  | pair (i j : Int) : Tv (.tuple [.int i, .int j])
theorem Tv.val {d : PyData} (h : isVal d = true) : Tv d := by
  unfold isVal at h
  split at h
  · exact .non
  · exact .int _
  · unfold isHdl at h
    split at h
    · next a b =>
      simp at h
      obtain ⟨i, rfl, _⟩ := isCnt_int h.1
      obtain ⟨j, rfl, _⟩ := isCnt_int h.2
      exact .pair _ _
    · cases h
def TvO (o : Out) : Prop := ∀ v, o.1 = .ok v → Tv v
theorem TvO.err (b : Bad) (m : Mem) : TvO (.error b, m) := fun _ h => nomatch h
theorem TvO.ok {v : PyData} (h : Tv v) (m : Mem) : TvO (.ok v, m) := fun _ z => by cases z; exact h
theorem doO_tv {m : Mem} (O : MOk m) (x : Ca) : TvO (doO m x) := by
  have pv : ∀ k, Tv (m.peek k) := fun k => Tv.val (peekV O.vals k)
  have iv : ∀ {p : Prop} [Decidable p] (k : Int), Tv (if p then m.peek k else .none) := fun k => by split; exact pv k; exact .non
  unfold doO reserveO fillO writeO readO freeO beginO copyO turnO settleO
  repeat' (first | exact TvO.err _ _ | exact TvO.ok (.pair _ _) _ | exact TvO.ok .non _ | exact TvO.ok (.bool _) _ | exact TvO.ok (pv _) _ | exact TvO.ok (iv _) _ | split | dsimp only)
theorem Tv.lit {d : PyData} (h : Tv d) (n : Nat) : Lit (n + 2) d := by
  cases h with
  | non => exact .non _
  | bool b => exact .bool _ b
  | int i => exact .int _ i
  | pair i j =>
    refine .tup _ _ (by simp) fun d hd => ?_
    simp only [List.mem_cons, List.not_mem_nil, or_false] at hd
    rcases hd with rfl | rfl <;> exact .int _ _
theorem wD_lit {m : Mem} (O : MOk m) (x : Ca) : Lit 4 (wD (doO m x).1) := by
  have h := doO_tv O x
  cases e : (doO m x).1 with
  | ok v => exact (h v e).lit 2
  | error b =>
    refine .tup _ _ (by simp) fun d hd => ?_
    simp only [List.mem_cons, List.not_mem_nil, or_false] at hd
    rcases hd with rfl | rfl
    · exact .str _ _ (by decide +kernel)
    · cases b <;> exact .str _ _ (by decide +kernel)
theorem st_lit {m : Mem} (F : Fin m) : Lit 4 (stateD m) := by
  have rc := F.snd.rc
  have ac := F.snd.ac
  refine .tup _ _ (by simp) fun d hd => ?_
  simp only [List.mem_cons, List.not_mem_nil, or_false] at hd
  rcases hd with rfl | rfl | rfl
  · exact .tup _ _ (by omega) fun d hd => Lit.val (n := 0) (F.vals d hd)
  · refine .tup _ _ (by simp; omega) fun d hd => ?_
    obtain ⟨r, _, rfl⟩ := List.mem_map.mp hd
    refine .tup _ _ (by simp) fun d hd => ?_
    simp only [List.mem_cons, List.not_mem_nil, or_false] at hd
    rcases hd with rfl | rfl | rfl | rfl | rfl | rfl | rfl | rfl | rfl
    case inr.inr.inr.inr.inr.inl => cases r.to with
      | none => exact .non _
      | some t => exact .int _ _
    all_goals first | exact .int _ _ | exact .bool _ _
  · exact .int _ _
/-- the table at first: nothing live, any counts -/
structure Ini (m : Mem) (c s : Nat) : Prop where
  ar : m.ar = List.replicate c .none
  rl : m.rows.length = s
  e : m.e = 0
  dead : ∀ r ∈ m.rows, r.live = false
  cn : Cn m
theorem Ini.zero (c s : Nat) : Ini (mem0 c s) c s := by
  have h : ∀ r ∈ (mem0 c s).rows, r = default := fun r hr => (List.mem_replicate.mp hr).2
  exact ⟨rfl, by simp [mem0], rfl, fun r hr => by rw [h r hr]; rfl, fun r hr => by rw [h r hr]; exact ⟨Int.le_refl _, Int.le_refl _, Int.le_refl _, Int.le_refl _, Int.le_refl _, Int.le_refl _, fun t z => nomatch z⟩⟩
theorem Ini.put {m : Mem} {c s i : Nat} {r : Mm.Row} (I : Ini m c s) (hl : r.live = false) (hr : RowC r) : Ini (m.put i r) c s := ⟨I.ar, by rw [put_rows]; exact I.rl, I.e, fun r' hr' => by
  rcases List.mem_or_eq_of_mem_set hr' with h1 | h1
  · exact I.dead r' h1
  · rw [h1]; exact hl, I.cn.put (m1 := m) rfl hr⟩
theorem Ini.ok {m : Mem} {c s : Nat} (I : Ini m c s) (c1 : 1 ≤ c) (c2 : c ≤ 100) (s1 : 1 ≤ s) (s2 : s ≤ 10) : Ok m := by
  have dead : ∀ i, i < m.rows.length → (m.row i).live = true → False := fun i hi h => by
    have : m.row i = m.rows[i] := by simp [Mem.row, List.getD, hi]
    rw [this, I.dead _ (List.getElem_mem hi)] at h
    cases h
  have al : m.ar.length = c := by rw [I.ar]; simp
  refine ⟨⟨⟨by rw [I.e]; exact Int.le_refl _, by rw [I.e]; omega, by rw [I.rl]; omega, by rw [al]; omega, fun i hi hl => (dead i hi hl).elim, fun i j hi _ hl => (dead i hi hl).elim, fun i j hi _ _ hl => (dead i hi hl).elim⟩, fun i => ?_, fun d hd => ?_, by rw [al]; exact c2, by rw [I.rl]; exact s2⟩, I.cn, by rw [al]; exact c1, by rw [I.rl]; exact s1⟩
  · rcases Nat.lt_or_ge i m.rows.length with h | h
    · exact (I.cn.row h).stamp
    · have : m.row i = default := by simp [Mem.row, List.getD, List.getElem?_eq_none h]
      rw [this]; exact Int.le_refl _
  · rw [I.ar] at hd
    rw [(List.mem_replicate.mp hd).2]; rfl
end K15
set_option Elab.async false
set_option linter.all false
set_option maxRecDepth 100000
set_option maxHeartbeats 4000000
set_option synthInstance.maxHeartbeats 1000000
set_option synthInstance.maxSize 1000000
namespace K15
open PySem PySem.Spec PyProof.Rows L2 Evl Pd Wl Mm
section
variable {P : Program} {w : World} {K : PySem.W.Frag} {mg : Str → Option Value} {base : Heap} {C E : Addr} {x : XA}
def D_lstate (ds : List PyData) (h : Lh) (P : Wv) : Prop := ∃ m p, ds = [rf p.a] ∧ LmK m p h ∧ m.rows.length ≤ 1000 ∧ m.ar.length ≤ 10000 ∧ P (stateD m) h
theorem cal_lstate (S : Src K mg "_law_state" st__law_state ["model"]) (T : Txt K mg) : Cal P w K mg base CX0 1 "_law_state" ["model"] (SpW K D_lstate) := by
  have sc := sc__law_state
  refine S.cal (k := 0) sc (SpW.len fun ds h P z => by obtain ⟨_, _, rfl, _⟩ := z; rfl) (fun f cdv A outer s H vs Q E' hr h => ⟨_, (pss_one (ps_ret (pe_tup (pa_cons (pe_callTy (k_tuple_of (K := K) rfl) (by rfl) T.n_tuple (by decide +kernel) (pa_cons (pe_dget (hu_of hr) (pv 0) pe_str (fun _ _ => rfl)) pa_nil)) (pa_cons (pe_callTy (k_tuple_of (K := K) rfl) (by rfl) T.n_tuple (by decide +kernel) (pa_cons (pe_lc (own := [("row", 1)]) rfl sc.nd (k_pi_list (K := K) rfl (pe_dget (hu_of hr) (pv 0) pe_str (fun _ _ => rfl))) (blkOk_by (by first | decide +kernel | kernel_rfl)) (fun _ _ _ _ _ => (pg_name (i := 1) sc.nd rfl (by first | exact Or.inl rfl | exact Or.inr rfl))) (fun _ _ _ _ _ => pts_nil) (fun _ _ _ _ _ => (pe_callTy (k_tuple_of (K := K) rfl) (by rfl) T.n_tuple (by decide +kernel) (pa_cons (pv 1) pa_nil)))) pa_nil)) (pa_cons (pe_dget (hu_of hr) (pv 0) pe_str (fun _ _ => rfl)) pa_nil)))))), h.enter fun ds lh P hD => ?_⟩)
  obtain ⟨m, p, rfl, A0, rc, ac, hk⟩ := hD
  have hl := A0.len
  simp [A0.a, A0.arr, A0.tbl]
  rw [es_range]
  refine lcL_map (l := List.range p.es.length) (emb := fun i => rf (p.es.getD i 0)) (fun i => .tuple (m.row i).ds) (by simp [A0.tbl, es_range]) (by simp; omega) (fun i hi F hF => ?_) ?_
  · have hi' : i < p.es.length := List.mem_range.mp hi
    rw [getD_es hi']
    simp [A0.en i hi']
    exact hF
  · have e : stateD m = .tuple [.tuple m.ar, .tuple ((List.range p.es.length).map fun i => .tuple (m.row i).ds), .int m.e] := by
      unfold stateD
      conv => lhs; rw [rows_range m, List.map_map, ← hl]
      rfl
    rw [e] at hk
    simp [A0.a]
    trace_state
    simpa using hk
end
end K15
set_option Elab.async false
set_option linter.all false
set_option maxRecDepth 100000
set_option maxHeartbeats 4000000
set_option synthInstance.maxHeartbeats 1000000
set_option synthInstance.maxSize 1000000
namespace K15
open PySem PySem.Spec PyProof.Rows L2 Evl Pd Wl Mm
def memR (C E : Addr) (m : Mem) (p : Mp) : Res := ⟨p.F, MemK C E m p, fun h h' A f => A.keep f, fun h A => A.has⟩
def lmR (m : Mem) (p : Mp) : Res := ⟨p.F, LmK m p, fun h h' A f => A.keep f, fun h A => A.has⟩
theorem Tk.mem_ {C E : Addr} {p : Mp} {m m' : Mem} {F0 : List Addr} {h0 h h' : Lh} {rs : List Res} (T : Tk F0 h0 rs h) {i : Nat} (hi : rs[i]? = some (memR C E m p)) (M : MemK C E m' p h') (k : Kp p.F h h') : Tk F0 h0 (rs.set i (memR C E m' p)) h' :=
  T.set (r := memR C E m p) (r' := memR C E m' p) i hi ⟨k, fun x hx => .inl hx⟩ M M.nd
abbrev caD (xs : List Ca) : List PyData := xs.map fun x => PyData.tuple x.ds
theorem gtup4 {i j k l : Nat} {a b c d : PyData} {ρ : Ev'} {h : Lh} {P : Ev' → Lh → Prop} (H : P ((((ρ.set i (some a)).set j (some b)).set k (some c)).set l (some d)) h) : wGTup 4 (wGCons (wName i) (wGCons (wName j) (wGCons (wName k) (wGCons (wName l) wGNil)))) (.tuple [a, b, c, d]) ρ h P := by
  simp [tv]
  exact H
theorem wSeq_step2 {a b c : WS} {E : WEnds} {ρ : Ev'} {h : Lh} (H : ∀ B : WS, B = c → wSeq a (wSeq b B) E ρ h) : wSeq a (wSeq b c) E ρ h := H c rfl
section
variable {P : Program} {w : World} {K : PySem.W.Frag} {mg : Str → Option Value} {base : Heap} {C E : Addr} {x : XA}
theorem law_body {fa : Addr} {fd : FuncData} (FL : Fun K "law" "law" st_law fa fd) (T : Txt K mg) (MT : MTxt K C) (C__law_cell : Cal P w K mg base CX0 1 "_law_cell" ["script", "k"] (SpW K D_cell)) (C__law_rich : Cal P w K mg base CX0 1 "_law_rich" ["cell", "k"] (SpW K D_rich))
    (C__law_same : Cal P w K mg base CX0 4 "_law_same" ["actual", "due"] (SpW K (D_same 4))) (C_Memory : CalC P w K mg base CX0 3 "Memory" C ["self", "cells", "slots"] (SpW K (D_Minit C E))) (C__law_model : Cal P w K mg base CX0 1 "_law_model" ["cells", "slots"] (SpW K D_lmodel)) (C__law_state : Cal P w K mg base CX0 1 "_law_state" ["model"] (SpW K D_lstate)) (C_restored : Cal P w K mg base CX0 6 "restored" ["state"] (SpW K (D_restored C E)))
    (C__law_drawn : Cal P w K mg base CX0 3 "_law_drawn" ["model", "rich"] (SpW K D_ldrawn)) (C__law_due : Cal P w K mg base CX0 5 "_law_due" ["call", "model", "one", "other", "third"] (SpW K D_due)) (C__law_told : Cal P w K mg base CX0 7 "_law_told" ["call", "memory", "one", "other", "third"] (SpW K (D_told C E))) (M_state : CalM P w K mg base CX0 2 C "state" ["self"] (SpW K (D_state C E))) : FnOk P w K mg base CX0 8 fa fd ["script"] (SpW K D_lawT) := by
  have sc := sc_law
  refine FL.ok sc (SpW.len fun ds h P z => by obtain ⟨_, rfl, _⟩ := z; rfl) (fun cdv A outer s H vs Q E0 hr h => ⟨_, (pss_cons (ps_set (i := 1) sc.nd rfl (by first | exact Or.inl rfl | exact Or.inr rfl) (pe_cal C__law_rich (hr.mono (by first | decide | omega)) rfl pass0 (pa_cons (pe_cal C__law_cell (hr.mono (by first | decide | omega)) rfl pass0 (pa_cons (pv 0) (pa_cons pe_int pa_nil))) (pa_cons pe_int pa_nil))))
  (pss_cons (ps_set (i := 2) sc.nd rfl (by first | exact Or.inl rfl | exact Or.inr rfl) (pe_cal C__law_model (hr.mono (by first | decide | omega)) rfl pass0 (pa_cons (pe_op op_add pe_int (pe_op op_mod (pv 1) pe_int)) (pa_cons (pe_op op_add pe_int (pe_op op_mod (pe_op op_fdiv (pv 1) pe_int) pe_int)) pa_nil))))
  (pss_cons (ps_for PassesOwn.never rfl (pi_range1 (by rfl) T.n_range (pa_cons (pe_callB (k_len_seq (K := K) rfl) (by rfl) T.n_len PySem.boot_len (pa_cons (pe_dget (hu_of hr) (pv 2) pe_str (fun _ _ => rfl)) pa_nil)) pa_nil)) (pg_name (i := 3) sc.nd rfl (by first | exact Or.inl rfl | exact Or.inr rfl)) (pss_cons (ps_set (i := 4) sc.nd rfl (by first | exact Or.inl rfl | exact Or.inr rfl) (pe_op op_fdiv (pv 1) (pe_op op_add pe_int (pe_op op_mul pe_int (pv 3)))))
  (pss_cons (ps_set (i := 5) sc.nd rfl (by first | exact Or.inl rfl | exact Or.inr rfl) (pe_ix (k_ix_list (K := K) rfl) (pe_dget (hu_of hr) (pv 2) pe_str (fun _ _ => rfl)) (pv 3) (fun _ _ => rfl)))
  (pss_cons (ps_asg (pe_op op_mod (pv 4) pe_int) (pg_sub (pv 5) pe_int set_list))
  (pss_one (ps_asg (pe_lst (pa_cons (pe_op op_mod (pv 4) pe_int) (pa_cons (pe_op op_mod (pe_op op_fdiv (pv 4) pe_int) pe_int) (pa_cons (pe_op op_mod (pe_op op_fdiv (pv 4) pe_int) pe_int) (pa_cons (pe_ix (k_ix_list (K := K) rfl) (pe_lst (pa_cons pe_non (pa_cons (pe_op op_mod (pe_op op_fdiv (pv 4) pe_int) pe_int) pa_nil))) (pe_op op_mod (pv 4) pe_int) (fun _ _ => rfl)) (pa_cons (pe_op op_mod (pe_op op_fdiv (pv 4) pe_int) pe_int) (pa_cons (pe_op op_mod (pv 4) pe_int) (pa_cons (pe_cmpR op_eq (pe_op op_mod (pv 4) pe_int) pe_int (nomark _)) pa_nil)))))))) (pg_sl0 (pv 5) pe_int)))))))
  (pss_cons (ps_set (i := 6) sc.nd rfl (by first | exact Or.inl rfl | exact Or.inr rfl) (pe_ifExp (pt_cmpR op_eq (pe_op op_mod (pv 1) pe_int) pe_int (nomark _)) (pe_mkC C_Memory (hr.mono (by first | decide | omega)) rfl pass0 (pa_cons (pe_op op_add pe_int (pe_op op_mod (pv 1) pe_int)) (pa_cons (pe_op op_add pe_int (pe_op op_mod (pe_op op_fdiv (pv 1) pe_int) pe_int)) pa_nil))) (pe_cal C_restored (hr.mono (by first | decide | omega)) rfl pass0 (pa_cons (pe_cal C__law_state (hr.mono (by first | decide | omega)) rfl pass0 (pa_cons (pv 2) pa_nil)) pa_nil))))
  (pss_cons (ps_if (pt_cmpR op_eq (pe_op op_mod (pv 1) pe_int) pe_int (nomark _)) (pss_one (ps_set (i := 2) sc.nd rfl (by first | exact Or.inl rfl | exact Or.inr rfl) (pe_cal C__law_model (hr.mono (by first | decide | omega)) rfl pass0 (pa_cons (pe_op op_add pe_int (pe_op op_mod (pv 1) pe_int)) (pa_cons (pe_op op_add pe_int (pe_op op_mod (pe_op op_fdiv (pv 1) pe_int) pe_int)) pa_nil))))) pss_nil)
  (pss_cons (ps_set (i := 7) sc.nd rfl (by first | exact Or.inl rfl | exact Or.inr rfl) (pe_ref (pe_lst pa_nil)))
  (pss_cons (ps_for PassesOwn.never rfl (pi_range1 (by rfl) T.n_range (pa_cons (pe_callB (call_max2 rfl) (by rfl) T.n_max (by decide +kernel) (pa_cons pe_int (pa_cons (pe_callB (call_min2 rfl) (by rfl) T.n_min (by decide +kernel) (pa_cons pe_int (pa_cons (pe_op op_sub (pe_callB (k_len_seq (K := K) rfl) (by rfl) T.n_len PySem.boot_len (pa_cons (pv 0) pa_nil)) pe_int) pa_nil))) pa_nil))) pa_nil)) (pg_name (i := 3) sc.nd rfl (by first | exact Or.inl rfl | exact Or.inr rfl)) (pss_cons (ps_set (i := 8) sc.nd rfl (by first | exact Or.inl rfl | exact Or.inr rfl) (pe_cal C__law_drawn (hr.mono (by first | decide | omega)) rfl pass0 (pa_cons (pv 2) (pa_cons (pe_cal C__law_rich (hr.mono (by first | decide | omega)) rfl pass0 (pa_cons (pe_cal C__law_cell (hr.mono (by first | decide | omega)) rfl pass0 (pa_cons (pv 0) (pa_cons (pe_op op_add pe_int (pv 3)) pa_nil))) (pa_cons (pv 3) pa_nil))) pa_nil))))
  (pss_cons (ps_expr (pe_cal C__law_due (hr.mono (by first | decide | omega)) rfl pass0 (pa_cons (pe_ix (k_ix_tup (K := K) rfl) (pv 8) pe_int (fun _ _ => rfl)) (pa_cons (pv 2) (pa_cons (pe_ix (k_ix_tup (K := K) rfl) (pv 8) pe_int (fun _ _ => rfl)) (pa_cons (pe_ix (k_ix_tup (K := K) rfl) (pv 8) pe_int (fun _ _ => rfl)) (pa_cons (pe_ix (k_ix_tup (K := K) rfl) (pv 8) pe_int (fun _ _ => rfl)) pa_nil)))))))
  (pss_one (ps_expr (k_append (K := K) rfl (pv 7) (pa_cons (pv 8) pa_nil)))))))
  (pss_cons (ps_set (i := 9) sc.nd rfl (by first | exact Or.inl rfl | exact Or.inr rfl) (pe_op op_mod (pe_op op_fdiv (pv 1) pe_int) (pe_callB (k_len_seq (K := K) rfl) (by rfl) T.n_len PySem.boot_len (pa_cons (pv 7) pa_nil))))
  (pss_cons (ps_for PassesOwn.never rfl (k_pi_list (K := K) rfl (pe_slice (k_sl_list (K := K) rfl) (pv 7) po_none (po_some (pv 9)))) (k_pg_tup (K := K) (n := 4) rfl rfl (pgs_cons (pg_name (i := 8) sc.nd rfl (by first | exact Or.inl rfl | exact Or.inr rfl)) (pgs_cons (pg_name (i := 10) sc.nd rfl (by first | exact Or.inl rfl | exact Or.inr rfl)) (pgs_cons (pg_name (i := 11) sc.nd rfl (by first | exact Or.inl rfl | exact Or.inr rfl)) (pgs_cons (pg_name (i := 12) sc.nd rfl (by first | exact Or.inl rfl | exact Or.inr rfl)) pgs_nil))))) (pss_one (ps_expr (pe_cal C__law_told (hr.mono (by first | decide | omega)) rfl pass0 (pa_cons (pv 8) (pa_cons (pv 6) (pa_cons (pv 10) (pa_cons (pv 11) (pa_cons (pv 12) pa_nil)))))))))
  (pss_cons (ps_set (i := 13) sc.nd rfl (by first | exact Or.inl rfl | exact Or.inr rfl) (pe_calM0 M_state MT.cl (hr.mono (by first | decide | omega)) pass0 (pv 6)))
  (pss_cons (ps_set (i := 14) sc.nd rfl (by first | exact Or.inl rfl | exact Or.inr rfl) (pe_cal C_restored (hr.mono (by first | decide | omega)) rfl pass0 (pa_cons (pv 13) pa_nil)))
  (pss_cons (ps_set (i := 15) sc.nd rfl (by first | exact Or.inl rfl | exact Or.inr rfl) (pe_cal C_restored (hr.mono (by first | decide | omega)) rfl pass0 (pa_cons (pv 13) pa_nil)))
  (pss_cons (ps_set (i := 16) sc.nd rfl (by first | exact Or.inl rfl | exact Or.inr rfl) (pe_ref (pe_lst pa_nil)))
  (pss_cons (ps_for PassesOwn.never rfl (k_pi_list (K := K) rfl (pe_slice (k_sl_list (K := K) rfl) (pv 7) (po_some (pv 9)) po_none)) (k_pg_tup (K := K) (n := 4) rfl rfl (pgs_cons (pg_name (i := 8) sc.nd rfl (by first | exact Or.inl rfl | exact Or.inr rfl)) (pgs_cons (pg_name (i := 10) sc.nd rfl (by first | exact Or.inl rfl | exact Or.inr rfl)) (pgs_cons (pg_name (i := 11) sc.nd rfl (by first | exact Or.inl rfl | exact Or.inr rfl)) (pgs_cons (pg_name (i := 12) sc.nd rfl (by first | exact Or.inl rfl | exact Or.inr rfl)) pgs_nil))))) (pss_cons (ps_expr (k_append (K := K) rfl (pv 16) (pa_cons (pe_cal C__law_told (hr.mono (by first | decide | omega)) rfl pass0 (pa_cons (pv 8) (pa_cons (pv 6) (pa_cons (pv 10) (pa_cons (pv 11) (pa_cons (pv 12) pa_nil)))))) pa_nil)))
  (pss_cons (ps_set (i := 15) sc.nd rfl (by first | exact Or.inl rfl | exact Or.inr rfl) (pe_cal C_restored (hr.mono (by first | decide | omega)) rfl pass0 (pa_cons (pe_calM0 M_state MT.cl (hr.mono (by first | decide | omega)) pass0 (pv 15)) pa_nil)))
  (pss_cons (ps_if (pt_not (pt_val (pe_cal C__law_same (hr.mono (by first | decide | omega)) rfl pass0 (pa_cons (pe_cal C__law_told (hr.mono (by first | decide | omega)) rfl pass0 (pa_cons (pv 8) (pa_cons (pv 15) (pa_cons (pv 10) (pa_cons (pv 11) (pa_cons (pv 12) pa_nil)))))) (pa_cons (pe_ix (k_ix_list (K := K) rfl) (pv 16) (pe_op op_sub (pe_callB (k_len_seq (K := K) rfl) (by rfl) T.n_len PySem.boot_len (pa_cons (pv 16) pa_nil)) pe_int) (fun _ _ => rfl)) pa_nil))))) (pss_one (ps_ret pe_bl)) pss_nil)
  (pss_one (ps_if (PW.pt (pw_or (pt_not (pt_val (pe_cal C__law_same (hr.mono (by first | decide | omega)) rfl pass0 (pa_cons (pe_calM0 M_state MT.cl (hr.mono (by first | decide | omega)) pass0 (pv 15)) (pa_cons (pe_calM0 M_state MT.cl (hr.mono (by first | decide | omega)) pass0 (pv 6)) pa_nil))))) (pw_or1 (pt_not (pt_val (pe_cal C__law_same (hr.mono (by first | decide | omega)) rfl pass0 (pa_cons (pe_calM0 M_state MT.cl (hr.mono (by first | decide | omega)) pass0 (pv 14)) (pa_cons (pv 13) pa_nil)))))))) (pss_one (ps_ret pe_bl)) pss_nil))))))
  (pss_cons (ps_for PassesOwn.never rfl (pi_range1 (by rfl) T.n_range (pa_cons (pe_callB (k_len_seq (K := K) rfl) (by rfl) T.n_len PySem.boot_len (pa_cons (pv 16) pa_nil)) pa_nil)) (pg_name (i := 3) sc.nd rfl (by first | exact Or.inl rfl | exact Or.inr rfl)) (pss_cons (ps_asg (pe_ix (k_ix_list (K := K) rfl) (pv 7) (pe_op op_add (pv 9) (pv 3)) (fun _ _ => rfl)) (k_pg_tup (K := K) (n := 4) rfl rfl (pgs_cons (pg_name (i := 8) sc.nd rfl (by first | exact Or.inl rfl | exact Or.inr rfl)) (pgs_cons (pg_name (i := 10) sc.nd rfl (by first | exact Or.inl rfl | exact Or.inr rfl)) (pgs_cons (pg_name (i := 11) sc.nd rfl (by first | exact Or.inl rfl | exact Or.inr rfl)) (pgs_cons (pg_name (i := 12) sc.nd rfl (by first | exact Or.inl rfl | exact Or.inr rfl)) pgs_nil))))))
  (pss_one (ps_if (pt_not (pt_val (pe_cal C__law_same (hr.mono (by first | decide | omega)) rfl pass0 (pa_cons (pe_cal C__law_told (hr.mono (by first | decide | omega)) rfl pass0 (pa_cons (pv 8) (pa_cons (pv 14) (pa_cons (pv 10) (pa_cons (pv 11) (pa_cons (pv 12) pa_nil)))))) (pa_cons (pe_ix (k_ix_list (K := K) rfl) (pv 16) (pv 3) (fun _ _ => rfl)) pa_nil))))) (pss_one (ps_ret pe_bl)) pss_nil))))
  (pss_one (ps_ret (pe_and (pe_cal C__law_same (hr.mono (by first | decide | omega)) rfl pass0 (pa_cons (pe_calM0 M_state MT.cl (hr.mono (by first | decide | omega)) pass0 (pv 14)) (pa_cons (pe_calM0 M_state MT.cl (hr.mono (by first | decide | omega)) pass0 (pv 6)) pa_nil))) (pe_one (pe_cal C__law_same (hr.mono (by first | decide | omega)) rfl pass0 (pa_cons (pe_calM0 M_state MT.cl (hr.mono (by first | decide | omega)) pass0 (pv 6)) (pa_cons (pe_cal C__law_state (hr.mono (by first | decide | omega)) rfl pass0 (pa_cons (pv 2) pa_nil)) pa_nil)))))))))))))))))))))), h.enter fun ds lh P hD => ?_⟩)
  obtain ⟨ns, rfl, n63, rfl, hk⟩ := hD
  refine wSeq_step fun B hB => ?_
  simp
  refine ⟨ns, _, rfl, by omega, fun r1 => ?_⟩
  simp
  refine ⟨r1, _, rfl, fun rich hr0 => ?_⟩
  simp
  subst hB
  refine wSeq_step fun B hB => ?_
  have a1 := Int.emod_nonneg rich (show (27 : Int) ≠ 0 by omega)
  have a2 := Int.emod_lt_of_pos rich (show (0 : Int) < 27 by omega)
  have b1 := Int.emod_nonneg (rich / 27) (show (6 : Int) ≠ 0 by omega)
  have b2 := Int.emod_lt_of_pos (rich / 27) (show (0 : Int) < 6 by omega)
  simp [CDiv]
  obtain ⟨c, hc⟩ : ∃ c : Nat, 4 + rich % 27 = (c : Int) := ⟨(4 + rich % 27).toNat, by omega⟩
  obtain ⟨sl, hsl⟩ : ∃ c : Nat, 1 + rich / 27 % 6 = (c : Int) := ⟨(1 + rich / 27 % 6).toNat, by omega⟩
  rw [hc, hsl]
  refine ⟨c, sl, rfl, by omega, by omega, fun pl h2 L2 g2 => ?_⟩
  have T2 : Tk [] (fun _ => none) [lmR (mem0 c sl) pl] h2 := (Tk.nil (fun _ => none)).add (r := lmR (mem0 c sl) pl) g2 L2 L2.nd
  clear L2 g2
  subst hB
  refine wSeq_step fun B hB => ?_
  have ll2 : LmK (mem0 c sl) pl h2 := T2.at_.get (i := 0) rfl
  have pll := ll2.len
  have pll : pl.es.length = sl := by rw [pll]; simp [mem0]
  simp [ll2.a, ll2.tbl]
  refine ⟨by omega, ?_⟩
  have hr : ∀ d ∈ rgD 0 ((pl.es.length : Nat) : Int), ∃ k : Nat, d = .int (k : Int) ∧ k < pl.es.length := fun d hd => by
    simp [rgD] at hd
    obtain ⟨i, hi, rfl⟩ := hd
    exact ⟨i, rfl, hi⟩
  refine forL_run (fun ds ρ h => (∀ d ∈ ds, ∃ k : Nat, d = .int (k : Int) ∧ k < pl.es.length) ∧ ∃ (m : Mem) (o3 o4 o5 : Option PyData), ρ = [some (scD ns), some (.int rich), some (rf pl.a), o3, o4, o5, none, none, none, none, none, none, none, none, none, none, none] ∧ Ini m c sl ∧ Tk [] (fun _ => none) [lmR m pl] h) ?_ ?_ ⟨hr, mem0 c sl, none, none, none, rfl, Ini.zero c sl, T2⟩
  · rintro v ds ρ h ⟨hall, m, o3, o4, o5, rfl, I, T3⟩
    obtain ⟨k, rfl, hkl⟩ := hall v (List.mem_cons_self ..)
    have L3 : LmK m pl h := T3.at_.get (i := 0) rfl
    have en := L3.en k hkl
    have hkr : k < m.rows.length := by rw [← L3.len]; exact hkl
    have hdead : (m.row k).live = false := by
      have : m.row k = m.rows[k] := by simp [Mem.row, List.getD, hkr]
      rw [this]; exact I.dead _ (List.getElem_mem hkr)
    refine ⟨trivial, fun F hF => ?_⟩
    refine wSeq_step fun B1 hB1 => ?_
    simp [CMul, CDiv]
    refine ⟨by omega, by omega, ?_⟩
    have q0 : 0 ≤ rich / (11 + 7 * (k : Int)) := Int.ediv_nonneg hr0 (by omega)
    generalize rich / (11 + 7 * (k : Int)) = rest at q0
    subst hB1
    refine wSeq_step fun B1 hB1 => ?_
    simp [L3.a, lv_lst L3.tbl, atI_es hkl]
    subst hB1
    refine wSeq_step fun B1 hB1 => ?_
    simp [en]
    subst hB1
    simp [CDiv]
    have fin : ∀ (o : Option Int), (∀ t, o = some t → 0 ≤ t) → F [some (scD ns), some (.int rich), some (rf pl.a), some (.int (k : Int)), some (.int rest), some (rf pl.es[k]), none, none, none, none, none, none, none, none, none, none, none] (up h pl.es[k] (.lst (Mm.Row.ds ⟨rest % 3, (m.row k).live, rest % 5, rest / 3 % 7, rest / 5 % 3, o, rest / 9 % 4, rest % 11, decide (rest % 2 = 0)⟩))) := fun o ho =>
      hF _ _ ⟨fun d hd => hall d (List.mem_cons_of_mem _ hd), m.put k ⟨rest % 3, (m.row k).live, rest % 5, rest / 3 % 7, rest / 5 % 3, o, rest / 9 % 4, rest % 11, decide (rest % 2 = 0)⟩, _, _, _, rfl, I.put hdead ⟨by show 0 ≤ rest % 3; omega, by show 0 ≤ rest % 5; omega, by show 0 ≤ rest / 3 % 7; omega, by show 0 ≤ rest / 5 % 3; omega, by show 0 ≤ rest / 9 % 4; omega, by show 0 ≤ rest % 11; omega, ho⟩, T3.set (r := lmR m pl) (r' := lmR (m.put k ⟨rest % 3, (m.row k).live, rest % 5, rest / 3 % 7, rest / 5 % 3, o, rest / 9 % 4, rest % 11, decide (rest % 2 = 0)⟩) pl) 0 rfl ⟨Kp.put (Mp.mem_es hkl), fun x hx => .inl hx⟩ (L3.putRow k hkl _) L3.nd⟩
    rcases (show rest % 2 = 0 ∨ rest % 2 = 1 by omega) with c2 | c2
    · rw [c2]
      have := fin none nofun
      rw [c2] at this
      exact ⟨_, rfl, 2, rfl, by omega, this⟩
    · rw [c2]
      have := fin (some (rest / 7 % 9)) fun t z => by cases z; omega
      rw [c2] at this
      exact ⟨_, rfl, 2, rfl, by omega, this⟩
  · rintro ρ h ⟨_, m, o3, o4, o5, rfl, I, T3⟩
    refine ⟨trivial, ?_⟩
    show B _ _ _
    have Om := I.ok (by omega) (by omega) (by omega) (by omega)
    have L3 : LmK m pl h := T3.at_.get (i := 0) rfl
    have rc := Om.ok.snd.rc
    have ac := Om.ok.snd.ac
    subst hB
    refine wSeq_step2 fun B hB => ?_
    have go : ∀ (m : Mem) (p pl : Mp) (h : Lh), Ok m → Tk [] (fun _ => none) [memR C E m p, lmR m pl] h → B { nx := fun x h' => P PyData.none h', rt := P } [some (scD ns), some (.int rich), some (rf pl.a), o3, o4, o5, some (rf p.a), none, none, none, none, none, none, none, none, none, none] h := by
      clear hc hsl T3 L3 T2 I Om a1 a2 b1 b2 hr pll ll2 rc ac
      intro m p pl h O T3
      subst hB
      refine wSeq_step fun B hB => ?_
      simp
      intro cl hcl
      have T4 : Tk [] (fun _ => none) [memR C E m p, lmR (doA m []) pl, ceR cl (.lst (caD []))] (up h cl (.lst [])) := T3.new hcl
      generalize up h cl (.lst []) = h4 at T4
      clear T3 hcl
      subst hB
      refine wSeq_step fun B hB => ?_
      simp
      obtain ⟨n, hn, hn6, hn1⟩ : ∃ n : Nat, (if 16 < if (ns.length : Int) - 1 < 50 then (ns.length : Int) - 1 else 50 then if (ns.length : Int) - 1 < 50 then (ns.length : Int) - 1 else 50 else 16) = (n : Int) ∧ n ≤ 50 ∧ 1 ≤ n := by
        refine ⟨(if 16 < if (ns.length : Int) - 1 < 50 then (ns.length : Int) - 1 else 50 then if (ns.length : Int) - 1 < 50 then (ns.length : Int) - 1 else 50 else 16).toNat, ?_, ?_, ?_⟩
        · split <;> split <;> omega
        · split <;> split <;> omega
        · split <;> split <;> omega
      rw [hn]
      refine ⟨by omega, by omega, ?_⟩
      have hr : ∀ d ∈ rgD 0 (n : Int), ∃ k : Int, d = .int k ∧ 0 ≤ k := fun d hd => by
        simp [rgD] at hd
        obtain ⟨i, hi, rfl⟩ := hd
        exact ⟨_, rfl, by omega⟩
      refine forL_run (fun ds ρ h => (∀ d ∈ ds, ∃ k : Int, d = .int k ∧ 0 ≤ k) ∧ ∃ (xs : List Ca) (o3 o8 : Option PyData), ρ = [some (scD ns), some (.int rich), some (rf pl.a), o3, o4, o5, some (rf p.a), some (rf cl), o8, none, none, none, none, none, none, none, none] ∧ xs.length + ds.length = n ∧ (∀ x ∈ xs, CaOk x) ∧ Tk [] (fun _ => none) [memR C E m p, lmR (doA m xs) pl, ceR cl (.lst (caD xs))] h) ?_ ?_ ⟨hr, [], o3, none, rfl, by simp [rgD], nofun, T4⟩
      · rintro v ds ρ h ⟨hall, xs, o3, o8, rfl, hxl, hxs, T5⟩
        obtain ⟨k, rfl, k0⟩ := hall v (List.mem_cons_self ..)
        rw [List.length_cons] at hxl
        refine ⟨trivial, fun F hF => ?_⟩
        have Ox := O.all hxs
        have L5 : LmK (doA m xs) pl h := T5.at_.get (i := 1) rfl
        refine wSeq_step fun B1 hB1 => ?_
        simp
        refine ⟨ns, _, rfl, by omega, fun r3 => ?_⟩
        simp
        refine ⟨r3, _, rfl, fun r4 hr4 => ?_⟩
        simp
        refine ⟨doA m xs, pl, r4, rfl, L5, hr4, Ox.ok, Ox.r1, fun x hx hw => ?_⟩
        simp
        subst hB1
        refine wSeq_step fun B1 hB1 => ?_
        simp [Ca.ds]
        refine ⟨doA m xs, pl, x, rfl, L5, Ox.ok, hx, fun h6 L6 k6 => ?_⟩
        have T6 : Tk [] (fun _ => none) [memR C E m p, lmR (doA m (xs ++ [x])) pl, ceR cl (.lst (caD xs))] h6 := by
          rw [doA_snoc]
          exact T5.set (r := lmR (doA m xs) pl) (r' := lmR (doO (doA m xs) x).2 pl) 1 rfl ⟨k6, fun x hx => .inl hx⟩ L6 L6.nd
        have hc6 : h6 cl = some (.lst (caD xs)) := T6.at_.get (i := 2) rfl
        show B1 _ _ _
        subst hB1
        simp [hc6]
        refine ⟨by omega, ?_⟩
        have T7 := T6.put (a := cl) (o := .lst (caD xs)) (u := .lst (caD (xs ++ [x]))) 2 rfl
        have e7 : (caD xs) ++ [PyData.tuple x.ds] = caD (xs ++ [x]) := by simp [caD]
        rw [show [PyData.str (nm x.k), x.a, x.b, x.c] = x.ds from rfl, e7]
        refine hF _ _ ⟨fun d hd => hall d (List.mem_cons_of_mem _ hd), xs ++ [x], _, _, rfl, by simp; omega, fun y hy => ?_, T7⟩
        rcases List.mem_append.mp hy with hy | hy
        · exact hxs y hy
        · cases List.mem_singleton.mp hy; exact hx
      · rintro ρ h ⟨_, xs, o3, o8, rfl, hxl, hxs, T5⟩
        refine ⟨trivial, ?_⟩
        show B _ _ _
        rw [List.length_nil, Nat.add_zero] at hxl
        clear hn hr T4
        have hc5 : h cl = some (.lst (caD xs)) := T5.at_.get (i := 2) rfl
        subst hB
        refine wSeq_step fun B hB => ?_
        simp [hc5, CDiv]
        refine ⟨by omega, ?_⟩
        obtain ⟨pn, hpn⟩ : ∃ pn : Nat, rich / 200 % (xs.length : Int) = (pn : Int) := ⟨(rich / 200 % (xs.length : Int)).toNat, by have := Int.emod_nonneg (rich / 200) (show (xs.length : Int) ≠ 0 by omega); omega⟩
        have hpl : pn < xs.length := by have := Int.emod_lt_of_pos (rich / 200) (show (0 : Int) < xs.length by omega); omega
        rw [hpn]
        clear hpn hc5
        subst hB
        refine wSeq_step fun B hB => ?_
        have hc5 : h cl = some (.lst (caD xs)) := T5.at_.get (i := 2) rfl
        simp [hc5]
        rw [← List.map_take]
        have hxt : ∀ ys : List Ca, (∀ y ∈ ys, y ∈ xs) → ∀ y ∈ ys, CaOk y := fun ys hy y h => hxs y (hy y h)
        refine forL_run (fun ds ρ h => ∃ (dn rs : List Ca) (o8 o10 o11 o12 : Option PyData), xs.take pn = dn ++ rs ∧ ds = caD rs ∧ ρ = [some (scD ns), some (.int rich), some (rf pl.a), o3, o4, o5, some (rf p.a), some (rf cl), o8, some (.int (pn : Int)), o10, o11, o12, none, none, none, none] ∧ Tk [] (fun _ => none) [memR C E (doA m dn) p, lmR (doA m xs) pl, ceR cl (.lst (caD xs))] h) ?_ ?_ ⟨[], xs.take pn, o8, none, none, none, rfl, rfl, rfl, T5⟩
        · rintro v ds ρ h ⟨dn, rs, o8, o10, o11, o12, e, eds, rfl, T6⟩
          cases rs with
          | nil => cases eds
          | cons x rs =>
          simp only [List.map_cons, List.cons.injEq] at eds
          obtain ⟨rfl, rfl⟩ := eds
          have sub : ∀ y ∈ dn ++ x :: rs, y ∈ xs := fun y hy => by rw [← e] at hy; exact List.mem_of_mem_take hy
          have hx : CaOk x := hxs x (sub x (by simp))
          have O6 := O.all (hxt dn fun y hy => sub y (List.mem_append_left _ hy))
          have M6 : MemK C E (doA m dn) p h := T6.at_.get (i := 0) rfl
          refine ⟨trivial, fun F hF => ?_⟩
          simp [Ca.ds, tv]
          refine ⟨doA m dn, p, x, rfl, M6, O6.ok, hx, fun h7 M7 k7 => ?_⟩
          have T7 := Tk.mem_ T6 (i := 0) rfl M7 k7
          exact hF _ _ ⟨dn ++ [x], rs, _, _, _, _, by rw [e]; simp, rfl, rfl, by rw [doA_snoc]; exact T7⟩
        · rintro ρ h ⟨dn, rs, o8, o10, o11, o12, e, eds, rfl, T6⟩
          have : rs = [] := by cases rs with | nil => rfl | cons a b => cases eds
          subst this
          rw [List.append_nil] at e
          refine ⟨trivial, ?_⟩
          show B _ _ _
          clear T5 hc5
          have O1 : Ok (doA m dn) := O.all (hxt dn fun y hy => by rw [← e] at hy; exact List.mem_of_mem_take hy)
          have ex : doA m xs = doA (doA m dn) (xs.drop pn) := by rw [← e, ← doA_app, List.take_append_drop]
          rw [ex] at T6
          generalize hm1 : doA m dn = m1 at T6 O1
          have M6 : MemK C E m1 p h := T6.at_.get (i := 0) rfl
          subst hB
          refine wSeq_step fun B hB => ?_
          simp [M6.a, MT.cl]
          refine ⟨m1, p, rfl, M6, O1.ok.snd, ?_⟩
          simp
          subst hB
          refine wSeq_step fun B hB => ?_
          simp
          refine ⟨m1, rfl, O1.fin, fun p2 h2 M2 g2 => ?_⟩
          have T7 : Tk [] (fun _ => none) ([memR C E m1 p, lmR (doA m1 (xs.drop pn)) pl, ceR cl (.lst (caD xs))] ++ [memR C E m1 p2]) h2 := T6.add (r := memR C E m1 p2) g2 M2 M2.nd
          simp
          subst hB
          refine wSeq_step fun B hB => ?_
          simp
          refine ⟨m1, rfl, O1.fin, fun p3 h3 M3 g3 => ?_⟩
          have T8 := T7.add (r := memR C E m1 p3) g3 M3 M3.nd
          simp
          subst hB
          refine wSeq_step fun B hB => ?_
          simp
          intro tl htl
          have T9 := T8.new (q := tl) (u := .lst []) htl
          have hys : ∀ y ∈ xs.drop pn, CaOk y := fun y hy => hxs y (List.mem_of_mem_drop hy)
          have ysl : (xs.drop pn).length ≤ 50 := by rw [List.length_drop]; omega
          have ydrop : (caD xs).drop pn = caD (xs.drop pn) := by simp [caD, List.map_drop]
          have yget : ∀ k (hk : k < (xs.drop pn).length), (caD xs)[pn + k]? = some (.tuple (xs.drop pn)[k].ds) := fun k hk => by
            have h2 : pn + k < xs.length := by rw [List.length_drop] at hk; omega
            simp [caD, h2]
          generalize xs.drop pn = ys at hys ysl ydrop yget T9
          generalize up h3 tl (.lst []) = h9 at T9
          clear T8 T7 M2 M3 g2 g3 M6 T6 e htl
          subst hB
          refine wSeq_step fun B hB => ?_
          have cl9 : h9 cl = some (.lst (caD xs)) := T9.at_.get (i := 2) rfl
          simp [cl9]
          have ydrop' : List.drop pn (List.map (fun x : Ca => PyData.tuple x.ds) xs) = caD ys := ydrop
          rw [ydrop']
          refine forL_run (fun ds ρ h => ∃ (dn rs : List Ca) (p3 : Mp) (o8 o10 o11 o12 : Option PyData), ys = dn ++ rs ∧ ds = caD rs ∧ ρ = [some (scD ns), some (.int rich), some (rf pl.a), o3, o4, o5, some (rf p.a), some (rf cl), o8, some (.int (pn : Int)), o10, o11, o12, some (stateD m1), some (rf p2.a), some (rf p3.a), some (rf tl)] ∧ Tk [] (fun _ => none) [memR C E (doA m1 dn) p, lmR (doA m1 ys) pl, ceR cl (.lst (caD xs)), memR C E m1 p2, memR C E (doA m1 dn) p3, ceR tl (.lst (tolds m1 dn))] h) ?_ ?_ ⟨[], ys, p3, o8, o10, o11, o12, rfl, rfl, rfl, T9⟩
          · rintro v ds ρ h ⟨dn, rs, p3, o8, o10, o11, o12, e, eds, rfl, T6⟩
            cases rs with
            | nil => cases eds
            | cons x rs =>
            simp only [List.map_cons, List.cons.injEq] at eds
            obtain ⟨rfl, rfl⟩ := eds
            have hx : CaOk x := hys x (by rw [e]; simp)
            have O6 : Ok (doA m1 dn) := O1.all fun y hy => hys y (by rw [e]; exact List.mem_append_left _ hy)
            have O7 := O6.do hx
            have dl : dn.length < ys.length := by rw [e]; simp
            have M6 : MemK C E (doA m1 dn) p h := T6.at_.get (i := 0) rfl
            have l6 : h tl = some (.lst (tolds m1 dn)) := T6.at_.get (i := 5) rfl
            refine ⟨trivial, fun F hF => ?_⟩
            refine gtup4 ?_
            show wSeq _ _ _ _ _
            refine wSeq_step fun B1 hB1 => ?_
            simp [l6]
            refine ⟨doA m1 dn, p, x, rfl, M6, O6.ok, hx, fun h7 M7 k7 => ?_⟩
            have T7 := Tk.mem_ T6 (i := 0) rfl M7 k7
            have l7 : h7 tl = some (.lst (tolds m1 dn)) := T7.at_.get (i := 5) rfl
            simp [l7, tolds_len]
            refine ⟨by omega, ?_⟩
            have T8 := T7.put (a := tl) (o := .lst (tolds m1 dn)) (u := .lst (tolds m1 dn ++ [wD (doO (doA m1 dn) x).1])) 5 rfl
            generalize up h7 tl (.lst (tolds m1 dn ++ [wD (doO (doA m1 dn) x).1])) = h8 at T8
            clear T7 l7 M7 k7 M6 l6 T6
            have M8 : MemK C E (doA m1 dn) p3 h8 := T8.at_.get (i := 4) rfl
            subst hB1
            refine wSeq_step fun B1 hB1 => ?_
            simp [M8.a, MT.cl]
            refine ⟨_, p3, rfl, M8, O6.ok.snd, ?_⟩
            simp
            refine ⟨_, rfl, O6.fin, fun p4 h9 M9 g9 => ?_⟩
            have T9 := Tk.repl (a := [memR C E (doO (doA m1 dn) x).2 p, lmR (doA m1 ys) pl, ceR cl (.lst (caD xs)), memR C E m1 p2]) (r := memR C E (doA m1 dn) p3) (r' := memR C E (doA m1 dn) p4) (b := [ceR tl (.lst (tolds m1 dn ++ [wD (doO (doA m1 dn) x).1]))]) (T8.add (r := memR C E (doA m1 dn) p4) g9 M9 M9.nd)
            simp
            clear T8 M8 g9
            subst hB1
            refine wSeq_step fun B1 hB1 => ?_
            simp
            refine ⟨doA m1 dn, p4, x, rfl, M9, O6.ok, hx, fun h10 M10 k10 => ?_⟩
            have T10 := Tk.mem_ T9 (i := 4) rfl M10 k10
            clear T9 M9 k10
            have l10 : h10 tl = some (.lst (tolds m1 dn ++ [wD (doO (doA m1 dn) x).1])) := T10.at_.get (i := 5) rfl
            have M10' : MemK C E (doO (doA m1 dn) x).2 p h10 := T10.at_.get (i := 0) rfl
            have M10l : MemK C E m1 p2 h10 := T10.at_.get (i := 3) rfl
            simp [l10, tolds_len]
            refine ⟨_, atI_nat (by rw [List.getElem?_append_right (by rw [tolds_len]; exact Nat.le_refl _), tolds_len, Nat.sub_self]; rfl), _, rfl, wD_lit O6.ok x, ?_⟩
            have M10a : MemK C E (doO (doA m1 dn) x).2 p4 h10 := T10.at_.get (i := 4) rfl
            simp
            subst hB1
            simp [M10a.a, MT.cl]
            refine ⟨_, p4, rfl, M10a, O7.ok.snd, ?_⟩
            simp [M10'.a, MT.cl]
            refine ⟨_, p, rfl, M10', O7.ok.snd, ?_⟩
            simp
            refine ⟨_, rfl, st_lit O7.fin, ?_⟩
            simp [M10l.a, MT.cl]
            refine ⟨_, p2, rfl, M10l, O1.ok.snd, ?_⟩
            simp
            refine ⟨_, rfl, st_lit O1.fin, ?_⟩
            simp
            exact hF _ _ ⟨dn ++ [x], rs, p4, _, _, _, _, by rw [e]; simp, rfl, rfl, by rw [doA_snoc, tolds_snoc]; exact T10⟩
          · rintro ρ h ⟨dn, rs, p3, o8, o10, o11, o12, e, eds, rfl, T6⟩
            have : rs = [] := by cases rs with | nil => rfl | cons a b => cases eds
            subst this
            rw [List.append_nil] at e
            subst e
            refine ⟨trivial, ?_⟩
            show B _ _ _
            clear T9 cl9
            have Oy := O1.all hys
            have T7 := T6.sub (qs := [memR C E (doA m1 ys) p, lmR (doA m1 ys) pl, ceR cl (.lst (caD xs)), memR C E m1 p2, ceR tl (.lst (tolds m1 ys))]) (by
              refine List.Sublist.cons_cons _ (List.Sublist.cons_cons _ (List.Sublist.cons_cons _ (List.Sublist.cons_cons _ ?_)))
              exact List.sublist_cons_self ..)
            clear T6
            have l7 : h tl = some (.lst (tolds m1 ys)) := T7.at_.get (i := 4) rfl
            subst hB
            refine wSeq_step fun B hB => ?_
            simp [l7, tolds_len]
            refine ⟨by omega, ?_⟩
            have hr : ∀ d ∈ rgD 0 (ys.length : Int), True := fun _ _ => trivial
            have er : rgD 0 (ys.length : Int) = (List.range ys.length).map fun (k : Nat) => PyData.int (k : Int) := by simp [rgD]
            rw [er]
            refine forL_run (fun ds ρ h => ∃ (j : Nat) (o3 o8 o10 o11 o12 : Option PyData), j ≤ ys.length ∧ ds = ((List.range ys.length).drop j).map (fun (k : Nat) => PyData.int (k : Int)) ∧ ρ = [some (scD ns), some (.int rich), some (rf pl.a), o3, o4, o5, some (rf p.a), some (rf cl), o8, some (.int (pn : Int)), o10, o11, o12, some (stateD m1), some (rf p2.a), some (rf p3.a), some (rf tl)] ∧ Tk [] (fun _ => none) [memR C E (doA m1 ys) p, lmR (doA m1 ys) pl, ceR cl (.lst (caD xs)), memR C E (doA m1 (ys.take j)) p2, ceR tl (.lst (tolds m1 ys))] h) ?_ ?_ ⟨0, o3, o8, o10, o11, o12, Nat.zero_le _, rfl, rfl, T7⟩
            · rintro v ds ρ h ⟨j, o3, o8, o10, o11, o12, hj, eds, rfl, T8⟩
              rcases Nat.lt_or_ge j ys.length with hlt | hge
              · rw [List.drop_eq_getElem_cons (by simpa using hlt)] at eds
                simp only [List.getElem_range, List.map_cons, List.cons.injEq] at eds
                obtain ⟨rfl, rfl⟩ := eds
                have hx : CaOk ys[j] := hys _ (List.getElem_mem hlt)
                have Oj : Ok (doA m1 (ys.take j)) := O1.all fun y hy => hys y (List.mem_of_mem_take hy)
                have M8 : MemK C E (doA m1 (ys.take j)) p2 h := T8.at_.get (i := 3) rfl
                have c8 : h cl = some (.lst (caD xs)) := T8.at_.get (i := 2) rfl
                have ac : atI (caD xs) ((pn : Int) + (j : Int)) = some (.tuple ys[j].ds) := by
                  have := atI_nat (yget j hlt)
                  rwa [Int.natCast_add] at this
                have at_ : atI (tolds m1 ys) (j : Int) = some (wD (doO (doA m1 (ys.take j)) ys[j]).1) := atI_nat (tolds_get m1 ys j hlt)
                refine ⟨trivial, fun F hF => ?_⟩
                show wSeq _ _ _ _ _
                refine wSeq_step fun B1 hB1 => ?_
                simp [c8, ac]
                refine ⟨rfl, _, _, rfl, _, _, rfl, _, _, rfl, _, _, rfl, rfl, ?_⟩
                subst hB1
                simp
                refine ⟨_, p2, ys[j], rfl, M8, Oj.ok, hx, fun h9 M9 k9 => ?_⟩
                have T9 := Tk.mem_ T8 (i := 3) rfl M9 k9
                have l9 : h9 tl = some (.lst (tolds m1 ys)) := T9.at_.get (i := 4) rfl
                simp [l9, at_]
                refine ⟨_, rfl, wD_lit Oj.ok _, ?_⟩
                simp
                have es : doA m1 (ys.take (j + 1)) = (doO (doA m1 (ys.take j)) ys[j]).2 := by rw [List.take_succ_eq_append_getElem hlt, doA_snoc]
                exact hF _ _ ⟨j + 1, _, _, _, _, _, hlt, rfl, rfl, by rw [es]; exact T9⟩
              · rw [List.drop_of_length_le (by simpa using hge)] at eds
                cases eds
            · rintro ρ h ⟨j, o3, o8, o10, o11, o12, hj, eds, rfl, T8⟩
              have hj : j = ys.length := by
                rcases Nat.lt_or_ge j ys.length with hlt | hge
                · rw [List.drop_eq_getElem_cons (by simpa using hlt)] at eds
                  cases eds
                · omega
              rw [hj, List.take_length] at T8
              refine ⟨trivial, ?_⟩
              show B _ _ _
              have M8 : MemK C E (doA m1 ys) p2 h := T8.at_.get (i := 3) rfl
              have M8p : MemK C E (doA m1 ys) p h := T8.at_.get (i := 0) rfl
              have L8 : LmK (doA m1 ys) pl h := T8.at_.get (i := 1) rfl
              subst hB
              simp [M8.a, MT.cl]
              refine ⟨_, p2, rfl, M8, Oy.ok.snd, ?_⟩
              simp [M8p.a, MT.cl]
              refine ⟨_, p, rfl, M8p, Oy.ok.snd, ?_⟩
              simp
              refine ⟨_, rfl, st_lit Oy.fin, ?_⟩
              simp [M8p.a, MT.cl]
              refine ⟨_, p, rfl, M8p, Oy.ok.snd, ?_⟩
              simp
              have rc := Oy.ok.snd.rc
              have ac := Oy.ok.snd.ac
              refine ⟨_, pl, rfl, L8, by omega, by omega, ?_⟩
              simp
              refine ⟨_, rfl, st_lit Oy.fin, ?_⟩
              exact hk _
    refine wSeq_step fun B1 hB1 => ?_
    simp [CDiv]
    rw [hc, hsl]
    refine wCond.p (fun c5 => fun a ha => ⟨a, c, sl, rfl, up_same, by omega, by omega, by omega, by omega, fun p h1 pa M1 g1 => ⟨rfl, ?_⟩⟩) fun c5 => ⟨m, pl, rfl, L3, by omega, by omega, m, rfl, Om.fin, fun p h1 M1 g1 => ?_⟩
    · subst pa
      have T4 : Tk [] (fun _ => none) [ceR p.a (.ins C [])] (up h p.a (.ins C [])) := (T3.new (q := p.a) (u := .ins C []) ha).sub (List.sublist_cons_self ..)
      have T5 : Tk [] (fun _ => none) [memR C E (mem0 c sl) p] h1 := T4.set (r := ceR p.a (.ins C [])) (r' := memR C E (mem0 c sl) p) 0 rfl g1 M1 M1.nd
      subst hB1
      simp [c5, CDiv]
      rw [hc, hsl]
      refine ⟨c, sl, rfl, by omega, by omega, fun pl5 h5 L5 g5 => ?_⟩
      have T6 : Tk [] (fun _ => none) [memR C E (mem0 c sl) p, lmR (mem0 c sl) pl5] h5 := T5.add (r := lmR (mem0 c sl) pl5) g5 L5 L5.nd
      simp
      exact go _ p pl5 h5 ((Ini.zero c sl).ok (by omega) (by omega) (by omega) (by omega)) T6
    · have T4 : Tk [] (fun _ => none) [lmR m pl, memR C E m p] h1 := T3.add (r := memR C E m p) g1 M1 M1.nd
      subst hB1
      simp [c5]
      exact go m p pl h1 Om (T4.perm (List.Perm.swap ..))
end
end K15
set_option Elab.async false
set_option linter.all false
set_option maxRecDepth 100000
set_option maxHeartbeats 8000000
namespace K15
open PySem PySem.Spec PyProof.Rows L2 Evl Pd Wl
section
variable {P : Program} {w : World} {K : PySem.W.Frag} {mg : Str → Option Value} {base : Heap}
theorem all_mk {l : PySem.W.OpenLaw} {h : Heap} {fa : Addr} (X : K.In h) (G : h.Ns mainGlobals mg) (hfa : mg "law" = some (.ref fa))
    {X0 : Addr} (gX0 : PySem.W.nsIn K mainGlobals "NoRoom" = some (some (.ref X0))) (xX0 : PySem.W.excIn K X0 [.type "ValueError", .type "Exception", .type "BaseException", .type "object"] "ValueError.__new__" = true) (kX0 : PySem.W.keepIn K (.ref X0) = true) (eX0 : PySem.W.subIn K (.ref X0) (.type "BaseException") = some true) (tX0 : PySem.W.typeIn K (.ref X0) = some (.type "type")) (isX0 : PySem.W.isClsIn K X0 = true) (sfX0 : PySem.W.subIn K (.ref X0) (.ref X0) = some true)
    {X1 : Addr} (gX1 : PySem.W.nsIn K mainGlobals "BadHandle" = some (some (.ref X1))) (xX1 : PySem.W.excIn K X1 [.type "ValueError", .type "Exception", .type "BaseException", .type "object"] "ValueError.__new__" = true) (kX1 : PySem.W.keepIn K (.ref X1) = true) (eX1 : PySem.W.subIn K (.ref X1) (.type "BaseException") = some true) (tX1 : PySem.W.typeIn K (.ref X1) = some (.type "type")) (isX1 : PySem.W.isClsIn K X1 = true) (sfX1 : PySem.W.subIn K (.ref X1) (.ref X1) = some true)
    {X2 : Addr} (gX2 : PySem.W.nsIn K mainGlobals "BadCell" = some (some (.ref X2))) (xX2 : PySem.W.excIn K X2 [.type "ValueError", .type "Exception", .type "BaseException", .type "object"] "ValueError.__new__" = true) (kX2 : PySem.W.keepIn K (.ref X2) = true) (eX2 : PySem.W.subIn K (.ref X2) (.type "BaseException") = some true) (tX2 : PySem.W.typeIn K (.ref X2) = some (.type "type")) (isX2 : PySem.W.isClsIn K X2 = true) (sfX2 : PySem.W.subIn K (.ref X2) (.ref X2) = some true)
    {X3 : Addr} (gX3 : PySem.W.nsIn K mainGlobals "BadValue" = some (some (.ref X3))) (xX3 : PySem.W.excIn K X3 [.type "ValueError", .type "Exception", .type "BaseException", .type "object"] "ValueError.__new__" = true) (kX3 : PySem.W.keepIn K (.ref X3) = true) (eX3 : PySem.W.subIn K (.ref X3) (.type "BaseException") = some true) (tX3 : PySem.W.typeIn K (.ref X3) = some (.type "type")) (isX3 : PySem.W.isClsIn K X3 = true) (sfX3 : PySem.W.subIn K (.ref X3) (.ref X3) = some true)
    {X4 : Addr} (gX4 : PySem.W.nsIn K mainGlobals "BadMove" = some (some (.ref X4))) (xX4 : PySem.W.excIn K X4 [.type "ValueError", .type "Exception", .type "BaseException", .type "object"] "ValueError.__new__" = true) (kX4 : PySem.W.keepIn K (.ref X4) = true) (eX4 : PySem.W.subIn K (.ref X4) (.type "BaseException") = some true) (tX4 : PySem.W.typeIn K (.ref X4) = some (.type "type")) (isX4 : PySem.W.isClsIn K X4 = true) (sfX4 : PySem.W.subIn K (.ref X4) (.ref X4) = some true)
    {C : Addr} (gC : PySem.W.nsIn K mainGlobals "Memory" = some (some (.ref C))) (pgC : PySem.W.plainGet K C Str.empty = true) (hdC : PySem.W.hasDictIn K C = true) (poC : PySem.W.plainOver K C = true) (saC : PySem.W.findIn K (.ref C) "__setattr__" = some (some (.builtin "object.__setattr__"))) (mkC : PySem.W.makesIn K C = true) (kpC : PySem.W.keepIn K (.ref C) = true)
    (nC__arena : PySem.W.findIn K (.ref C) "_arena" = some none) (nC__table : PySem.W.findIn K (.ref C) "_table" = some none) (nC__end : PySem.W.findIn K (.ref C) "_end" = some none)
    {fC_init : Addr} {odC_init anC_init : Option Addr} {slC_init : Array (Option Value)} {ocC_init kVC_init dcC_init pmC_init cdC_init ctC_init : Value}
    (aC_init : PySem.W.findIn K (.ref C) "__init__" = some (some (.ref fC_init))) (lC_init : K.lookup fC_init = some ⟨ocC_init, odC_init, .func (PySem.W.fnOf "__init__" "Memory.__init__" (defArgs st_Memory_init) (defBody st_Memory_init) (defScope st_Memory_init) .none kVC_init dcC_init pmC_init anC_init cdC_init ctC_init), slC_init⟩) (cC_init : PySem.W.codeIn K cdC_init "Memory.__init__" = true) (kC_init : PySem.W.keepIn K (.ref fC_init) = true)
    (iC_init : PySem.W.isFn K (.ref fC_init) = true)
    {fC_cells : Addr} {odC_cells anC_cells : Option Addr} {slC_cells : Array (Option Value)} {ocC_cells kVC_cells dcC_cells pmC_cells cdC_cells ctC_cells : Value}
    (aC_cells : PySem.W.findIn K (.ref C) "cells" = some (some (.ref fC_cells))) (lC_cells : K.lookup fC_cells = some ⟨ocC_cells, odC_cells, .func (PySem.W.fnOf "cells" "Memory.cells" (defArgs st_Memory_cells) (defBody st_Memory_cells) (defScope st_Memory_cells) .none kVC_cells dcC_cells pmC_cells anC_cells cdC_cells ctC_cells), slC_cells⟩) (cC_cells : PySem.W.codeIn K cdC_cells "Memory.cells" = true) (kC_cells : PySem.W.keepIn K (.ref fC_cells) = true)
    (iC_cells : PySem.W.isFn K (.ref fC_cells) = true)
    {fC_slots : Addr} {odC_slots anC_slots : Option Addr} {slC_slots : Array (Option Value)} {ocC_slots kVC_slots dcC_slots pmC_slots cdC_slots ctC_slots : Value}
    (aC_slots : PySem.W.findIn K (.ref C) "slots" = some (some (.ref fC_slots))) (lC_slots : K.lookup fC_slots = some ⟨ocC_slots, odC_slots, .func (PySem.W.fnOf "slots" "Memory.slots" (defArgs st_Memory_slots) (defBody st_Memory_slots) (defScope st_Memory_slots) .none kVC_slots dcC_slots pmC_slots anC_slots cdC_slots ctC_slots), slC_slots⟩) (cC_slots : PySem.W.codeIn K cdC_slots "Memory.slots" = true) (kC_slots : PySem.W.keepIn K (.ref fC_slots) = true)
    (iC_slots : PySem.W.isFn K (.ref fC_slots) = true)
    {fC_end : Addr} {odC_end anC_end : Option Addr} {slC_end : Array (Option Value)} {ocC_end kVC_end dcC_end pmC_end cdC_end ctC_end : Value}
    (aC_end : PySem.W.findIn K (.ref C) "end" = some (some (.ref fC_end))) (lC_end : K.lookup fC_end = some ⟨ocC_end, odC_end, .func (PySem.W.fnOf "end" "Memory.end" (defArgs st_Memory_end) (defBody st_Memory_end) (defScope st_Memory_end) .none kVC_end dcC_end pmC_end anC_end cdC_end ctC_end), slC_end⟩) (cC_end : PySem.W.codeIn K cdC_end "Memory.end" = true) (kC_end : PySem.W.keepIn K (.ref fC_end) = true)
    (iC_end : PySem.W.isFn K (.ref fC_end) = true)
    {fC_live : Addr} {odC_live anC_live : Option Addr} {slC_live : Array (Option Value)} {ocC_live kVC_live dcC_live pmC_live cdC_live ctC_live : Value}
    (aC_live : PySem.W.findIn K (.ref C) "live" = some (some (.ref fC_live))) (lC_live : K.lookup fC_live = some ⟨ocC_live, odC_live, .func (PySem.W.fnOf "live" "Memory.live" (defArgs st_Memory_live) (defBody st_Memory_live) (defScope st_Memory_live) .none kVC_live dcC_live pmC_live anC_live cdC_live ctC_live), slC_live⟩) (cC_live : PySem.W.codeIn K cdC_live "Memory.live" = true) (kC_live : PySem.W.keepIn K (.ref fC_live) = true)
    (iC_live : PySem.W.isFn K (.ref fC_live) = true)
    {fC_entry_at : Addr} {odC_entry_at anC_entry_at : Option Addr} {slC_entry_at : Array (Option Value)} {ocC_entry_at kVC_entry_at dcC_entry_at pmC_entry_at cdC_entry_at ctC_entry_at : Value}
    (aC_entry_at : PySem.W.findIn K (.ref C) "_entry_at" = some (some (.ref fC_entry_at))) (lC_entry_at : K.lookup fC_entry_at = some ⟨ocC_entry_at, odC_entry_at, .func (PySem.W.fnOf "_entry_at" "Memory._entry_at" (defArgs st_Memory_entry_at) (defBody st_Memory_entry_at) (defScope st_Memory_entry_at) .none kVC_entry_at dcC_entry_at pmC_entry_at anC_entry_at cdC_entry_at ctC_entry_at), slC_entry_at⟩) (cC_entry_at : PySem.W.codeIn K cdC_entry_at "Memory._entry_at" = true) (kC_entry_at : PySem.W.keepIn K (.ref fC_entry_at) = true)
    (iC_entry_at : PySem.W.isFn K (.ref fC_entry_at) = true)
    {fC_entry : Addr} {odC_entry anC_entry : Option Addr} {slC_entry : Array (Option Value)} {ocC_entry kVC_entry dcC_entry pmC_entry cdC_entry ctC_entry : Value}
    (aC_entry : PySem.W.findIn K (.ref C) "_entry" = some (some (.ref fC_entry))) (lC_entry : K.lookup fC_entry = some ⟨ocC_entry, odC_entry, .func (PySem.W.fnOf "_entry" "Memory._entry" (defArgs st_Memory_entry) (defBody st_Memory_entry) (defScope st_Memory_entry) .none kVC_entry dcC_entry pmC_entry anC_entry cdC_entry ctC_entry), slC_entry⟩) (cC_entry : PySem.W.codeIn K cdC_entry "Memory._entry" = true) (kC_entry : PySem.W.keepIn K (.ref fC_entry) = true)
    (iC_entry : PySem.W.isFn K (.ref fC_entry) = true)
    {fC_is_live : Addr} {odC_is_live anC_is_live : Option Addr} {slC_is_live : Array (Option Value)} {ocC_is_live kVC_is_live dcC_is_live pmC_is_live cdC_is_live ctC_is_live : Value}
    (aC_is_live : PySem.W.findIn K (.ref C) "is_live" = some (some (.ref fC_is_live))) (lC_is_live : K.lookup fC_is_live = some ⟨ocC_is_live, odC_is_live, .func (PySem.W.fnOf "is_live" "Memory.is_live" (defArgs st_Memory_is_live) (defBody st_Memory_is_live) (defScope st_Memory_is_live) .none kVC_is_live dcC_is_live pmC_is_live anC_is_live cdC_is_live ctC_is_live), slC_is_live⟩) (cC_is_live : PySem.W.codeIn K cdC_is_live "Memory.is_live" = true) (kC_is_live : PySem.W.keepIn K (.ref fC_is_live) = true)
    (iC_is_live : PySem.W.isFn K (.ref fC_is_live) = true)
    {fC_fits : Addr} {odC_fits anC_fits : Option Addr} {slC_fits : Array (Option Value)} {ocC_fits kVC_fits dcC_fits pmC_fits cdC_fits ctC_fits : Value}
    (aC_fits : PySem.W.findIn K (.ref C) "fits" = some (some (.ref fC_fits))) (lC_fits : K.lookup fC_fits = some ⟨ocC_fits, odC_fits, .func (PySem.W.fnOf "fits" "Memory.fits" (defArgs st_Memory_fits) (defBody st_Memory_fits) (defScope st_Memory_fits) .none kVC_fits dcC_fits pmC_fits anC_fits cdC_fits ctC_fits), slC_fits⟩) (cC_fits : PySem.W.codeIn K cdC_fits "Memory.fits" = true) (kC_fits : PySem.W.keepIn K (.ref fC_fits) = true)
    (iC_fits : PySem.W.isFn K (.ref fC_fits) = true)
    {fC_reserve : Addr} {odC_reserve anC_reserve : Option Addr} {slC_reserve : Array (Option Value)} {ocC_reserve kVC_reserve dcC_reserve pmC_reserve cdC_reserve ctC_reserve : Value}
    (aC_reserve : PySem.W.findIn K (.ref C) "reserve" = some (some (.ref fC_reserve))) (lC_reserve : K.lookup fC_reserve = some ⟨ocC_reserve, odC_reserve, .func (PySem.W.fnOf "reserve" "Memory.reserve" (defArgs st_Memory_reserve) (defBody st_Memory_reserve) (defScope st_Memory_reserve) .none kVC_reserve dcC_reserve pmC_reserve anC_reserve cdC_reserve ctC_reserve), slC_reserve⟩) (cC_reserve : PySem.W.codeIn K cdC_reserve "Memory.reserve" = true) (kC_reserve : PySem.W.keepIn K (.ref fC_reserve) = true)
    (iC_reserve : PySem.W.isFn K (.ref fC_reserve) = true)
    {fC_spot : Addr} {odC_spot anC_spot : Option Addr} {slC_spot : Array (Option Value)} {ocC_spot kVC_spot dcC_spot pmC_spot cdC_spot ctC_spot : Value}
    (aC_spot : PySem.W.findIn K (.ref C) "_spot" = some (some (.ref fC_spot))) (lC_spot : K.lookup fC_spot = some ⟨ocC_spot, odC_spot, .func (PySem.W.fnOf "_spot" "Memory._spot" (defArgs st_Memory_spot) (defBody st_Memory_spot) (defScope st_Memory_spot) .none kVC_spot dcC_spot pmC_spot anC_spot cdC_spot ctC_spot), slC_spot⟩) (cC_spot : PySem.W.codeIn K cdC_spot "Memory._spot" = true) (kC_spot : PySem.W.keepIn K (.ref fC_spot) = true)
    (iC_spot : PySem.W.isFn K (.ref fC_spot) = true)
    {fC_fill : Addr} {odC_fill anC_fill : Option Addr} {slC_fill : Array (Option Value)} {ocC_fill kVC_fill dcC_fill pmC_fill cdC_fill ctC_fill : Value}
    (aC_fill : PySem.W.findIn K (.ref C) "fill" = some (some (.ref fC_fill))) (lC_fill : K.lookup fC_fill = some ⟨ocC_fill, odC_fill, .func (PySem.W.fnOf "fill" "Memory.fill" (defArgs st_Memory_fill) (defBody st_Memory_fill) (defScope st_Memory_fill) .none kVC_fill dcC_fill pmC_fill anC_fill cdC_fill ctC_fill), slC_fill⟩) (cC_fill : PySem.W.codeIn K cdC_fill "Memory.fill" = true) (kC_fill : PySem.W.keepIn K (.ref fC_fill) = true)
    (iC_fill : PySem.W.isFn K (.ref fC_fill) = true)
    {fC_read : Addr} {odC_read anC_read : Option Addr} {slC_read : Array (Option Value)} {ocC_read kVC_read dcC_read pmC_read cdC_read ctC_read : Value}
    (aC_read : PySem.W.findIn K (.ref C) "read" = some (some (.ref fC_read))) (lC_read : K.lookup fC_read = some ⟨ocC_read, odC_read, .func (PySem.W.fnOf "read" "Memory.read" (defArgs st_Memory_read) (defBody st_Memory_read) (defScope st_Memory_read) .none kVC_read dcC_read pmC_read anC_read cdC_read ctC_read), slC_read⟩) (cC_read : PySem.W.codeIn K cdC_read "Memory.read" = true) (kC_read : PySem.W.keepIn K (.ref fC_read) = true)
    (iC_read : PySem.W.isFn K (.ref fC_read) = true)
    {fC_write : Addr} {odC_write anC_write : Option Addr} {slC_write : Array (Option Value)} {ocC_write kVC_write dcC_write pmC_write cdC_write ctC_write : Value}
    (aC_write : PySem.W.findIn K (.ref C) "write" = some (some (.ref fC_write))) (lC_write : K.lookup fC_write = some ⟨ocC_write, odC_write, .func (PySem.W.fnOf "write" "Memory.write" (defArgs st_Memory_write) (defBody st_Memory_write) (defScope st_Memory_write) .none kVC_write dcC_write pmC_write anC_write cdC_write ctC_write), slC_write⟩) (cC_write : PySem.W.codeIn K cdC_write "Memory.write" = true) (kC_write : PySem.W.keepIn K (.ref fC_write) = true)
    (iC_write : PySem.W.isFn K (.ref fC_write) = true)
    {fC_free : Addr} {odC_free anC_free : Option Addr} {slC_free : Array (Option Value)} {ocC_free kVC_free dcC_free pmC_free cdC_free ctC_free : Value}
    (aC_free : PySem.W.findIn K (.ref C) "free" = some (some (.ref fC_free))) (lC_free : K.lookup fC_free = some ⟨ocC_free, odC_free, .func (PySem.W.fnOf "free" "Memory.free" (defArgs st_Memory_free) (defBody st_Memory_free) (defScope st_Memory_free) .none kVC_free dcC_free pmC_free anC_free cdC_free ctC_free), slC_free⟩) (cC_free : PySem.W.codeIn K cdC_free "Memory.free" = true) (kC_free : PySem.W.keepIn K (.ref fC_free) = true)
    (iC_free : PySem.W.isFn K (.ref fC_free) = true)
    {fC_place : Addr} {odC_place anC_place : Option Addr} {slC_place : Array (Option Value)} {ocC_place kVC_place dcC_place pmC_place cdC_place ctC_place : Value}
    (aC_place : PySem.W.findIn K (.ref C) "place" = some (some (.ref fC_place))) (lC_place : K.lookup fC_place = some ⟨ocC_place, odC_place, .func (PySem.W.fnOf "place" "Memory.place" (defArgs st_Memory_place) (defBody st_Memory_place) (defScope st_Memory_place) .none kVC_place dcC_place pmC_place anC_place cdC_place ctC_place), slC_place⟩) (cC_place : PySem.W.codeIn K cdC_place "Memory.place" = true) (kC_place : PySem.W.keepIn K (.ref fC_place) = true)
    (iC_place : PySem.W.isFn K (.ref fC_place) = true)
    {fC_moving : Addr} {odC_moving anC_moving : Option Addr} {slC_moving : Array (Option Value)} {ocC_moving kVC_moving dcC_moving pmC_moving cdC_moving ctC_moving : Value}
    (aC_moving : PySem.W.findIn K (.ref C) "moving" = some (some (.ref fC_moving))) (lC_moving : K.lookup fC_moving = some ⟨ocC_moving, odC_moving, .func (PySem.W.fnOf "moving" "Memory.moving" (defArgs st_Memory_moving) (defBody st_Memory_moving) (defScope st_Memory_moving) .none kVC_moving dcC_moving pmC_moving anC_moving cdC_moving ctC_moving), slC_moving⟩) (cC_moving : PySem.W.codeIn K cdC_moving "Memory.moving" = true) (kC_moving : PySem.W.keepIn K (.ref fC_moving) = true)
    (iC_moving : PySem.W.isFn K (.ref fC_moving) = true)
    {fC_begin_move : Addr} {odC_begin_move anC_begin_move : Option Addr} {slC_begin_move : Array (Option Value)} {ocC_begin_move kVC_begin_move dcC_begin_move pmC_begin_move cdC_begin_move ctC_begin_move : Value}
    (aC_begin_move : PySem.W.findIn K (.ref C) "begin_move" = some (some (.ref fC_begin_move))) (lC_begin_move : K.lookup fC_begin_move = some ⟨ocC_begin_move, odC_begin_move, .func (PySem.W.fnOf "begin_move" "Memory.begin_move" (defArgs st_Memory_begin_move) (defBody st_Memory_begin_move) (defScope st_Memory_begin_move) .none kVC_begin_move dcC_begin_move pmC_begin_move anC_begin_move cdC_begin_move ctC_begin_move), slC_begin_move⟩) (cC_begin_move : PySem.W.codeIn K cdC_begin_move "Memory.begin_move" = true) (kC_begin_move : PySem.W.keepIn K (.ref fC_begin_move) = true)
    (iC_begin_move : PySem.W.isFn K (.ref fC_begin_move) = true)
    {fC_copy_cell : Addr} {odC_copy_cell anC_copy_cell : Option Addr} {slC_copy_cell : Array (Option Value)} {ocC_copy_cell kVC_copy_cell dcC_copy_cell pmC_copy_cell cdC_copy_cell ctC_copy_cell : Value}
    (aC_copy_cell : PySem.W.findIn K (.ref C) "copy_cell" = some (some (.ref fC_copy_cell))) (lC_copy_cell : K.lookup fC_copy_cell = some ⟨ocC_copy_cell, odC_copy_cell, .func (PySem.W.fnOf "copy_cell" "Memory.copy_cell" (defArgs st_Memory_copy_cell) (defBody st_Memory_copy_cell) (defScope st_Memory_copy_cell) .none kVC_copy_cell dcC_copy_cell pmC_copy_cell anC_copy_cell cdC_copy_cell ctC_copy_cell), slC_copy_cell⟩) (cC_copy_cell : PySem.W.codeIn K cdC_copy_cell "Memory.copy_cell" = true) (kC_copy_cell : PySem.W.keepIn K (.ref fC_copy_cell) = true)
    (iC_copy_cell : PySem.W.isFn K (.ref fC_copy_cell) = true)
    {fC_turn : Addr} {odC_turn anC_turn : Option Addr} {slC_turn : Array (Option Value)} {ocC_turn kVC_turn dcC_turn pmC_turn cdC_turn ctC_turn : Value}
    (aC_turn : PySem.W.findIn K (.ref C) "turn" = some (some (.ref fC_turn))) (lC_turn : K.lookup fC_turn = some ⟨ocC_turn, odC_turn, .func (PySem.W.fnOf "turn" "Memory.turn" (defArgs st_Memory_turn) (defBody st_Memory_turn) (defScope st_Memory_turn) .none kVC_turn dcC_turn pmC_turn anC_turn cdC_turn ctC_turn), slC_turn⟩) (cC_turn : PySem.W.codeIn K cdC_turn "Memory.turn" = true) (kC_turn : PySem.W.keepIn K (.ref fC_turn) = true)
    (iC_turn : PySem.W.isFn K (.ref fC_turn) = true)
    {fC_settle : Addr} {odC_settle anC_settle : Option Addr} {slC_settle : Array (Option Value)} {ocC_settle kVC_settle dcC_settle pmC_settle cdC_settle ctC_settle : Value}
    (aC_settle : PySem.W.findIn K (.ref C) "settle" = some (some (.ref fC_settle))) (lC_settle : K.lookup fC_settle = some ⟨ocC_settle, odC_settle, .func (PySem.W.fnOf "settle" "Memory.settle" (defArgs st_Memory_settle) (defBody st_Memory_settle) (defScope st_Memory_settle) .none kVC_settle dcC_settle pmC_settle anC_settle cdC_settle ctC_settle), slC_settle⟩) (cC_settle : PySem.W.codeIn K cdC_settle "Memory.settle" = true) (kC_settle : PySem.W.keepIn K (.ref fC_settle) = true)
    (iC_settle : PySem.W.isFn K (.ref fC_settle) = true)
    {fC_state : Addr} {odC_state anC_state : Option Addr} {slC_state : Array (Option Value)} {ocC_state kVC_state dcC_state pmC_state cdC_state ctC_state : Value}
    (aC_state : PySem.W.findIn K (.ref C) "state" = some (some (.ref fC_state))) (lC_state : K.lookup fC_state = some ⟨ocC_state, odC_state, .func (PySem.W.fnOf "state" "Memory.state" (defArgs st_Memory_state) (defBody st_Memory_state) (defScope st_Memory_state) .none kVC_state dcC_state pmC_state anC_state cdC_state ctC_state), slC_state⟩) (cC_state : PySem.W.codeIn K cdC_state "Memory.state" = true) (kC_state : PySem.W.keepIn K (.ref fC_state) = true)
    (iC_state : PySem.W.isFn K (.ref fC_state) = true)
    {fC_take : Addr} {odC_take anC_take : Option Addr} {slC_take : Array (Option Value)} {ocC_take kVC_take dcC_take pmC_take cdC_take ctC_take : Value}
    (aC_take : PySem.W.findIn K (.ref C) "take" = some (some (.ref fC_take))) (lC_take : K.lookup fC_take = some ⟨ocC_take, odC_take, .func (PySem.W.fnOf "take" "Memory.take" (defArgs st_Memory_take) (defBody st_Memory_take) (defScope st_Memory_take) .none kVC_take dcC_take pmC_take anC_take cdC_take ctC_take), slC_take⟩) (cC_take : PySem.W.codeIn K cdC_take "Memory.take" = true) (kC_take : PySem.W.keepIn K (.ref fC_take) = true)
    (iC_take : PySem.W.isFn K (.ref fC_take) = true)
    {E : Addr} (gE : PySem.W.nsIn K mainGlobals "Entry" = some (some (.ref E))) (pgE : PySem.W.plainGet K E Str.empty = true) (hdE : PySem.W.hasDictIn K E = true) (poE : PySem.W.plainOver K E = true) (saE : PySem.W.findIn K (.ref E) "__setattr__" = some (some (.builtin "object.__setattr__"))) (mkE : PySem.W.makesIn K E = true) (kpE : PySem.W.keepIn K (.ref E) = true)
    (nE_stamp : PySem.W.findIn K (.ref E) "stamp" = some none) (nE_live : PySem.W.findIn K (.ref E) "live" = some none) (nE_size : PySem.W.findIn K (.ref E) "size" = some none) (nE_start : PySem.W.findIn K (.ref E) "start" = some none) (nE_filled : PySem.W.findIn K (.ref E) "filled" = some none) (nE_to : PySem.W.findIn K (.ref E) "to" = some none) (nE_done : PySem.W.findIn K (.ref E) "done" = some none) (nE_mark : PySem.W.findIn K (.ref E) "mark" = some none) (nE_black : PySem.W.findIn K (.ref E) "black" = some none)
    {fE_init : Addr} {odE_init anE_init : Option Addr} {slE_init : Array (Option Value)} {ocE_init kVE_init dcE_init pmE_init cdE_init ctE_init : Value}
    (aE_init : PySem.W.findIn K (.ref E) "__init__" = some (some (.ref fE_init))) (lE_init : K.lookup fE_init = some ⟨ocE_init, odE_init, .func (PySem.W.fnOf "__init__" "Entry.__init__" (defArgs st_Entry_init) (defBody st_Entry_init) (defScope st_Entry_init) .none kVE_init dcE_init pmE_init anE_init cdE_init ctE_init), slE_init⟩) (cE_init : PySem.W.codeIn K cdE_init "Entry.__init__" = true) (kE_init : PySem.W.keepIn K (.ref fE_init) = true)
    (iE_init : PySem.W.isFn K (.ref fE_init) = true)
    {fE_row : Addr} {odE_row anE_row : Option Addr} {slE_row : Array (Option Value)} {ocE_row kVE_row dcE_row pmE_row cdE_row ctE_row : Value}
    (aE_row : PySem.W.findIn K (.ref E) "row" = some (some (.ref fE_row))) (lE_row : K.lookup fE_row = some ⟨ocE_row, odE_row, .func (PySem.W.fnOf "row" "Entry.row" (defArgs st_Entry_row) (defBody st_Entry_row) (defScope st_Entry_row) .none kVE_row dcE_row pmE_row anE_row cdE_row ctE_row), slE_row⟩) (cE_row : PySem.W.codeIn K cdE_row "Entry.row" = true) (kE_row : PySem.W.keepIn K (.ref fE_row) = true)
    (iE_row : PySem.W.isFn K (.ref fE_row) = true)
    {fE_high : Addr} {odE_high anE_high : Option Addr} {slE_high : Array (Option Value)} {ocE_high kVE_high dcE_high pmE_high cdE_high ctE_high : Value}
    (aE_high : PySem.W.findIn K (.ref E) "high" = some (some (.ref fE_high))) (lE_high : K.lookup fE_high = some ⟨ocE_high, odE_high, .func (PySem.W.fnOf "high" "Entry.high" (defArgs st_Entry_high) (defBody st_Entry_high) (defScope st_Entry_high) .none kVE_high dcE_high pmE_high anE_high cdE_high ctE_high), slE_high⟩) (cE_high : PySem.W.codeIn K cdE_high "Entry.high" = true) (kE_high : PySem.W.keepIn K (.ref fE_high) = true)
    (iE_high : PySem.W.isFn K (.ref fE_high) = true)
    {f1 : Addr} {od1 an1 : Option Addr} {sl1 : Array (Option Value)} {oc1 kV1 dc1 pm1 cd1 ct1 : Value}
    (a1 : PySem.W.nsIn K mainGlobals "is_integer" = some (some (.ref f1))) (l1 : K.lookup f1 = some ⟨oc1, od1, .func (PySem.W.fnOf "is_integer" "is_integer" (defArgs st_is_integer) (defBody st_is_integer) (defScope st_is_integer) .none kV1 dc1 pm1 an1 cd1 ct1), sl1⟩) (c1 : PySem.W.codeIn K cd1 "is_integer" = true) (k1 : PySem.W.keepIn K (.ref f1) = true)
    {f2 : Addr} {od2 an2 : Option Addr} {sl2 : Array (Option Value)} {oc2 kV2 dc2 pm2 cd2 ct2 : Value}
    (a2 : PySem.W.nsIn K mainGlobals "is_count" = some (some (.ref f2))) (l2 : K.lookup f2 = some ⟨oc2, od2, .func (PySem.W.fnOf "is_count" "is_count" (defArgs st_is_count) (defBody st_is_count) (defScope st_is_count) .none kV2 dc2 pm2 an2 cd2 ct2), sl2⟩) (c2 : PySem.W.codeIn K cd2 "is_count" = true) (k2 : PySem.W.keepIn K (.ref f2) = true)
    {f3 : Addr} {od3 an3 : Option Addr} {sl3 : Array (Option Value)} {oc3 kV3 dc3 pm3 cd3 ct3 : Value}
    (a3 : PySem.W.nsIn K mainGlobals "is_handle" = some (some (.ref f3))) (l3 : K.lookup f3 = some ⟨oc3, od3, .func (PySem.W.fnOf "is_handle" "is_handle" (defArgs st_is_handle) (defBody st_is_handle) (defScope st_is_handle) .none kV3 dc3 pm3 an3 cd3 ct3), sl3⟩) (c3 : PySem.W.codeIn K cd3 "is_handle" = true) (k3 : PySem.W.keepIn K (.ref f3) = true)
    {f4 : Addr} {od4 an4 : Option Addr} {sl4 : Array (Option Value)} {oc4 kV4 dc4 pm4 cd4 ct4 : Value}
    (a4 : PySem.W.nsIn K mainGlobals "is_value" = some (some (.ref f4))) (l4 : K.lookup f4 = some ⟨oc4, od4, .func (PySem.W.fnOf "is_value" "is_value" (defArgs st_is_value) (defBody st_is_value) (defScope st_is_value) .none kV4 dc4 pm4 an4 cd4 ct4), sl4⟩) (c4 : PySem.W.codeIn K cd4 "is_value" = true) (k4 : PySem.W.keepIn K (.ref f4) = true)
    {f5 : Addr} {od5 an5 : Option Addr} {sl5 : Array (Option Value)} {oc5 kV5 dc5 pm5 cd5 ct5 : Value}
    (a5 : PySem.W.nsIn K mainGlobals "is_row" = some (some (.ref f5))) (l5 : K.lookup f5 = some ⟨oc5, od5, .func (PySem.W.fnOf "is_row" "is_row" (defArgs st_is_row) (defBody st_is_row) (defScope st_is_row) .none kV5 dc5 pm5 an5 cd5 ct5), sl5⟩) (c5 : PySem.W.codeIn K cd5 "is_row" = true) (k5 : PySem.W.keepIn K (.ref f5) = true)
    {f6 : Addr} {od6 an6 : Option Addr} {sl6 : Array (Option Value)} {oc6 kV6 dc6 pm6 cd6 ct6 : Value}
    (a6 : PySem.W.nsIn K mainGlobals "is_sound" = some (some (.ref f6))) (l6 : K.lookup f6 = some ⟨oc6, od6, .func (PySem.W.fnOf "is_sound" "is_sound" (defArgs st_is_sound) (defBody st_is_sound) (defScope st_is_sound) .none kV6 dc6 pm6 an6 cd6 ct6), sl6⟩) (c6 : PySem.W.codeIn K cd6 "is_sound" = true) (k6 : PySem.W.keepIn K (.ref f6) = true)
    {f7 : Addr} {od7 an7 : Option Addr} {sl7 : Array (Option Value)} {oc7 kV7 dc7 pm7 cd7 ct7 : Value}
    (a7 : PySem.W.nsIn K mainGlobals "is_state" = some (some (.ref f7))) (l7 : K.lookup f7 = some ⟨oc7, od7, .func (PySem.W.fnOf "is_state" "is_state" (defArgs st_is_state) (defBody st_is_state) (defScope st_is_state) .none kV7 dc7 pm7 an7 cd7 ct7), sl7⟩) (c7 : PySem.W.codeIn K cd7 "is_state" = true) (k7 : PySem.W.keepIn K (.ref f7) = true)
    {f8 : Addr} {od8 an8 : Option Addr} {sl8 : Array (Option Value)} {oc8 kV8 dc8 pm8 cd8 ct8 : Value}
    (a8 : PySem.W.nsIn K mainGlobals "restored" = some (some (.ref f8))) (l8 : K.lookup f8 = some ⟨oc8, od8, .func (PySem.W.fnOf "restored" "restored" (defArgs st_restored) (defBody st_restored) (defScope st_restored) .none kV8 dc8 pm8 an8 cd8 ct8), sl8⟩) (c8 : PySem.W.codeIn K cd8 "restored" = true) (k8 : PySem.W.keepIn K (.ref f8) = true)
    {f9 : Addr} {od9 an9 : Option Addr} {sl9 : Array (Option Value)} {oc9 kV9 dc9 pm9 cd9 ct9 : Value}
    (a9 : PySem.W.nsIn K mainGlobals "_law_cell" = some (some (.ref f9))) (l9 : K.lookup f9 = some ⟨oc9, od9, .func (PySem.W.fnOf "_law_cell" "_law_cell" (defArgs st__law_cell) (defBody st__law_cell) (defScope st__law_cell) .none kV9 dc9 pm9 an9 cd9 ct9), sl9⟩) (c9 : PySem.W.codeIn K cd9 "_law_cell" = true) (k9 : PySem.W.keepIn K (.ref f9) = true)
    {f10 : Addr} {od10 an10 : Option Addr} {sl10 : Array (Option Value)} {oc10 kV10 dc10 pm10 cd10 ct10 : Value}
    (a10 : PySem.W.nsIn K mainGlobals "_law_rich" = some (some (.ref f10))) (l10 : K.lookup f10 = some ⟨oc10, od10, .func (PySem.W.fnOf "_law_rich" "_law_rich" (defArgs st__law_rich) (defBody st__law_rich) (defScope st__law_rich) .none kV10 dc10 pm10 an10 cd10 ct10), sl10⟩) (c10 : PySem.W.codeIn K cd10 "_law_rich" = true) (k10 : PySem.W.keepIn K (.ref f10) = true)
    {f11 : Addr} {od11 an11 : Option Addr} {sl11 : Array (Option Value)} {oc11 kV11 dc11 pm11 cd11 ct11 : Value}
    (a11 : PySem.W.nsIn K mainGlobals "_law_same" = some (some (.ref f11))) (l11 : K.lookup f11 = some ⟨oc11, od11, .func (PySem.W.fnOf "_law_same" "_law_same" (defArgs st__law_same) (defBody st__law_same) (defScope st__law_same) .none kV11 dc11 pm11 an11 cd11 ct11), sl11⟩) (c11 : PySem.W.codeIn K cd11 "_law_same" = true) (k11 : PySem.W.keepIn K (.ref f11) = true)
    {f12 : Addr} {od12 an12 : Option Addr} {sl12 : Array (Option Value)} {oc12 kV12 dc12 pm12 cd12 ct12 : Value}
    (a12 : PySem.W.nsIn K mainGlobals "_law_is_integer" = some (some (.ref f12))) (l12 : K.lookup f12 = some ⟨oc12, od12, .func (PySem.W.fnOf "_law_is_integer" "_law_is_integer" (defArgs st__law_is_integer) (defBody st__law_is_integer) (defScope st__law_is_integer) .none kV12 dc12 pm12 an12 cd12 ct12), sl12⟩) (c12 : PySem.W.codeIn K cd12 "_law_is_integer" = true) (k12 : PySem.W.keepIn K (.ref f12) = true)
    {f13 : Addr} {od13 an13 : Option Addr} {sl13 : Array (Option Value)} {oc13 kV13 dc13 pm13 cd13 ct13 : Value}
    (a13 : PySem.W.nsIn K mainGlobals "_law_is_handle" = some (some (.ref f13))) (l13 : K.lookup f13 = some ⟨oc13, od13, .func (PySem.W.fnOf "_law_is_handle" "_law_is_handle" (defArgs st__law_is_handle) (defBody st__law_is_handle) (defScope st__law_is_handle) .none kV13 dc13 pm13 an13 cd13 ct13), sl13⟩) (c13 : PySem.W.codeIn K cd13 "_law_is_handle" = true) (k13 : PySem.W.keepIn K (.ref f13) = true)
    {f14 : Addr} {od14 an14 : Option Addr} {sl14 : Array (Option Value)} {oc14 kV14 dc14 pm14 cd14 ct14 : Value}
    (a14 : PySem.W.nsIn K mainGlobals "_law_is_value" = some (some (.ref f14))) (l14 : K.lookup f14 = some ⟨oc14, od14, .func (PySem.W.fnOf "_law_is_value" "_law_is_value" (defArgs st__law_is_value) (defBody st__law_is_value) (defScope st__law_is_value) .none kV14 dc14 pm14 an14 cd14 ct14), sl14⟩) (c14 : PySem.W.codeIn K cd14 "_law_is_value" = true) (k14 : PySem.W.keepIn K (.ref f14) = true)
    {f15 : Addr} {od15 an15 : Option Addr} {sl15 : Array (Option Value)} {oc15 kV15 dc15 pm15 cd15 ct15 : Value}
    (a15 : PySem.W.nsIn K mainGlobals "_law_model" = some (some (.ref f15))) (l15 : K.lookup f15 = some ⟨oc15, od15, .func (PySem.W.fnOf "_law_model" "_law_model" (defArgs st__law_model) (defBody st__law_model) (defScope st__law_model) .none kV15 dc15 pm15 an15 cd15 ct15), sl15⟩) (c15 : PySem.W.codeIn K cd15 "_law_model" = true) (k15 : PySem.W.keepIn K (.ref f15) = true)
    {f16 : Addr} {od16 an16 : Option Addr} {sl16 : Array (Option Value)} {oc16 kV16 dc16 pm16 cd16 ct16 : Value}
    (a16 : PySem.W.nsIn K mainGlobals "_law_state" = some (some (.ref f16))) (l16 : K.lookup f16 = some ⟨oc16, od16, .func (PySem.W.fnOf "_law_state" "_law_state" (defArgs st__law_state) (defBody st__law_state) (defScope st__law_state) .none kV16 dc16 pm16 an16 cd16 ct16), sl16⟩) (c16 : PySem.W.codeIn K cd16 "_law_state" = true) (k16 : PySem.W.keepIn K (.ref f16) = true)
    {f17 : Addr} {od17 an17 : Option Addr} {sl17 : Array (Option Value)} {oc17 kV17 dc17 pm17 cd17 ct17 : Value}
    (a17 : PySem.W.nsIn K mainGlobals "_law_live" = some (some (.ref f17))) (l17 : K.lookup f17 = some ⟨oc17, od17, .func (PySem.W.fnOf "_law_live" "_law_live" (defArgs st__law_live) (defBody st__law_live) (defScope st__law_live) .none kV17 dc17 pm17 an17 cd17 ct17), sl17⟩) (c17 : PySem.W.codeIn K cd17 "_law_live" = true) (k17 : PySem.W.keepIn K (.ref f17) = true)
    {f18 : Addr} {od18 an18 : Option Addr} {sl18 : Array (Option Value)} {oc18 kV18 dc18 pm18 cd18 ct18 : Value}
    (a18 : PySem.W.nsIn K mainGlobals "_law_row" = some (some (.ref f18))) (l18 : K.lookup f18 = some ⟨oc18, od18, .func (PySem.W.fnOf "_law_row" "_law_row" (defArgs st__law_row) (defBody st__law_row) (defScope st__law_row) .none kV18 dc18 pm18 an18 cd18 ct18), sl18⟩) (c18 : PySem.W.codeIn K cd18 "_law_row" = true) (k18 : PySem.W.keepIn K (.ref f18) = true)
    {f19 : Addr} {od19 an19 : Option Addr} {sl19 : Array (Option Value)} {oc19 kV19 dc19 pm19 cd19 ct19 : Value}
    (a19 : PySem.W.nsIn K mainGlobals "_law_named" = some (some (.ref f19))) (l19 : K.lookup f19 = some ⟨oc19, od19, .func (PySem.W.fnOf "_law_named" "_law_named" (defArgs st__law_named) (defBody st__law_named) (defScope st__law_named) .none kV19 dc19 pm19 an19 cd19 ct19), sl19⟩) (c19 : PySem.W.codeIn K cd19 "_law_named" = true) (k19 : PySem.W.keepIn K (.ref f19) = true)
    {f20 : Addr} {od20 an20 : Option Addr} {sl20 : Array (Option Value)} {oc20 kV20 dc20 pm20 cd20 ct20 : Value}
    (a20 : PySem.W.nsIn K mainGlobals "_law_spot" = some (some (.ref f20))) (l20 : K.lookup f20 = some ⟨oc20, od20, .func (PySem.W.fnOf "_law_spot" "_law_spot" (defArgs st__law_spot) (defBody st__law_spot) (defScope st__law_spot) .none kV20 dc20 pm20 an20 cd20 ct20), sl20⟩) (c20 : PySem.W.codeIn K cd20 "_law_spot" = true) (k20 : PySem.W.keepIn K (.ref f20) = true)
    {f21 : Addr} {od21 an21 : Option Addr} {sl21 : Array (Option Value)} {oc21 kV21 dc21 pm21 cd21 ct21 : Value}
    (a21 : PySem.W.nsIn K mainGlobals "_law_count_below" = some (some (.ref f21))) (l21 : K.lookup f21 = some ⟨oc21, od21, .func (PySem.W.fnOf "_law_count_below" "_law_count_below" (defArgs st__law_count_below) (defBody st__law_count_below) (defScope st__law_count_below) .none kV21 dc21 pm21 an21 cd21 ct21), sl21⟩) (c21 : PySem.W.codeIn K cd21 "_law_count_below" = true) (k21 : PySem.W.keepIn K (.ref f21) = true)
    {f22 : Addr} {od22 an22 : Option Addr} {sl22 : Array (Option Value)} {oc22 kV22 dc22 pm22 cd22 ct22 : Value}
    (a22 : PySem.W.nsIn K mainGlobals "_law_reserve" = some (some (.ref f22))) (l22 : K.lookup f22 = some ⟨oc22, od22, .func (PySem.W.fnOf "_law_reserve" "_law_reserve" (defArgs st__law_reserve) (defBody st__law_reserve) (defScope st__law_reserve) .none kV22 dc22 pm22 an22 cd22 ct22), sl22⟩) (c22 : PySem.W.codeIn K cd22 "_law_reserve" = true) (k22 : PySem.W.keepIn K (.ref f22) = true)
    {f23 : Addr} {od23 an23 : Option Addr} {sl23 : Array (Option Value)} {oc23 kV23 dc23 pm23 cd23 ct23 : Value}
    (a23 : PySem.W.nsIn K mainGlobals "_law_fill" = some (some (.ref f23))) (l23 : K.lookup f23 = some ⟨oc23, od23, .func (PySem.W.fnOf "_law_fill" "_law_fill" (defArgs st__law_fill) (defBody st__law_fill) (defScope st__law_fill) .none kV23 dc23 pm23 an23 cd23 ct23), sl23⟩) (c23 : PySem.W.codeIn K cd23 "_law_fill" = true) (k23 : PySem.W.keepIn K (.ref f23) = true)
    {f24 : Addr} {od24 an24 : Option Addr} {sl24 : Array (Option Value)} {oc24 kV24 dc24 pm24 cd24 ct24 : Value}
    (a24 : PySem.W.nsIn K mainGlobals "_law_read" = some (some (.ref f24))) (l24 : K.lookup f24 = some ⟨oc24, od24, .func (PySem.W.fnOf "_law_read" "_law_read" (defArgs st__law_read) (defBody st__law_read) (defScope st__law_read) .none kV24 dc24 pm24 an24 cd24 ct24), sl24⟩) (c24 : PySem.W.codeIn K cd24 "_law_read" = true) (k24 : PySem.W.keepIn K (.ref f24) = true)
    {f25 : Addr} {od25 an25 : Option Addr} {sl25 : Array (Option Value)} {oc25 kV25 dc25 pm25 cd25 ct25 : Value}
    (a25 : PySem.W.nsIn K mainGlobals "_law_write" = some (some (.ref f25))) (l25 : K.lookup f25 = some ⟨oc25, od25, .func (PySem.W.fnOf "_law_write" "_law_write" (defArgs st__law_write) (defBody st__law_write) (defScope st__law_write) .none kV25 dc25 pm25 an25 cd25 ct25), sl25⟩) (c25 : PySem.W.codeIn K cd25 "_law_write" = true) (k25 : PySem.W.keepIn K (.ref f25) = true)
    {f26 : Addr} {od26 an26 : Option Addr} {sl26 : Array (Option Value)} {oc26 kV26 dc26 pm26 cd26 ct26 : Value}
    (a26 : PySem.W.nsIn K mainGlobals "_law_place" = some (some (.ref f26))) (l26 : K.lookup f26 = some ⟨oc26, od26, .func (PySem.W.fnOf "_law_place" "_law_place" (defArgs st__law_place) (defBody st__law_place) (defScope st__law_place) .none kV26 dc26 pm26 an26 cd26 ct26), sl26⟩) (c26 : PySem.W.codeIn K cd26 "_law_place" = true) (k26 : PySem.W.keepIn K (.ref f26) = true)
    {f27 : Addr} {od27 an27 : Option Addr} {sl27 : Array (Option Value)} {oc27 kV27 dc27 pm27 cd27 ct27 : Value}
    (a27 : PySem.W.nsIn K mainGlobals "_law_free" = some (some (.ref f27))) (l27 : K.lookup f27 = some ⟨oc27, od27, .func (PySem.W.fnOf "_law_free" "_law_free" (defArgs st__law_free) (defBody st__law_free) (defScope st__law_free) .none kV27 dc27 pm27 an27 cd27 ct27), sl27⟩) (c27 : PySem.W.codeIn K cd27 "_law_free" = true) (k27 : PySem.W.keepIn K (.ref f27) = true)
    {f28 : Addr} {od28 an28 : Option Addr} {sl28 : Array (Option Value)} {oc28 kV28 dc28 pm28 cd28 ct28 : Value}
    (a28 : PySem.W.nsIn K mainGlobals "_law_moving" = some (some (.ref f28))) (l28 : K.lookup f28 = some ⟨oc28, od28, .func (PySem.W.fnOf "_law_moving" "_law_moving" (defArgs st__law_moving) (defBody st__law_moving) (defScope st__law_moving) .none kV28 dc28 pm28 an28 cd28 ct28), sl28⟩) (c28 : PySem.W.codeIn K cd28 "_law_moving" = true) (k28 : PySem.W.keepIn K (.ref f28) = true)
    {f29 : Addr} {od29 an29 : Option Addr} {sl29 : Array (Option Value)} {oc29 kV29 dc29 pm29 cd29 ct29 : Value}
    (a29 : PySem.W.nsIn K mainGlobals "_law_begin" = some (some (.ref f29))) (l29 : K.lookup f29 = some ⟨oc29, od29, .func (PySem.W.fnOf "_law_begin" "_law_begin" (defArgs st__law_begin) (defBody st__law_begin) (defScope st__law_begin) .none kV29 dc29 pm29 an29 cd29 ct29), sl29⟩) (c29 : PySem.W.codeIn K cd29 "_law_begin" = true) (k29 : PySem.W.keepIn K (.ref f29) = true)
    {f30 : Addr} {od30 an30 : Option Addr} {sl30 : Array (Option Value)} {oc30 kV30 dc30 pm30 cd30 ct30 : Value}
    (a30 : PySem.W.nsIn K mainGlobals "_law_copy" = some (some (.ref f30))) (l30 : K.lookup f30 = some ⟨oc30, od30, .func (PySem.W.fnOf "_law_copy" "_law_copy" (defArgs st__law_copy) (defBody st__law_copy) (defScope st__law_copy) .none kV30 dc30 pm30 an30 cd30 ct30), sl30⟩) (c30 : PySem.W.codeIn K cd30 "_law_copy" = true) (k30 : PySem.W.keepIn K (.ref f30) = true)
    {f31 : Addr} {od31 an31 : Option Addr} {sl31 : Array (Option Value)} {oc31 kV31 dc31 pm31 cd31 ct31 : Value}
    (a31 : PySem.W.nsIn K mainGlobals "_law_turn" = some (some (.ref f31))) (l31 : K.lookup f31 = some ⟨oc31, od31, .func (PySem.W.fnOf "_law_turn" "_law_turn" (defArgs st__law_turn) (defBody st__law_turn) (defScope st__law_turn) .none kV31 dc31 pm31 an31 cd31 ct31), sl31⟩) (c31 : PySem.W.codeIn K cd31 "_law_turn" = true) (k31 : PySem.W.keepIn K (.ref f31) = true)
    {f32 : Addr} {od32 an32 : Option Addr} {sl32 : Array (Option Value)} {oc32 kV32 dc32 pm32 cd32 ct32 : Value}
    (a32 : PySem.W.nsIn K mainGlobals "_law_settle" = some (some (.ref f32))) (l32 : K.lookup f32 = some ⟨oc32, od32, .func (PySem.W.fnOf "_law_settle" "_law_settle" (defArgs st__law_settle) (defBody st__law_settle) (defScope st__law_settle) .none kV32 dc32 pm32 an32 cd32 ct32), sl32⟩) (c32 : PySem.W.codeIn K cd32 "_law_settle" = true) (k32 : PySem.W.keepIn K (.ref f32) = true)
    {f33 : Addr} {od33 an33 : Option Addr} {sl33 : Array (Option Value)} {oc33 kV33 dc33 pm33 cd33 ct33 : Value}
    (a33 : PySem.W.nsIn K mainGlobals "_law_told" = some (some (.ref f33))) (l33 : K.lookup f33 = some ⟨oc33, od33, .func (PySem.W.fnOf "_law_told" "_law_told" (defArgs st__law_told) (defBody st__law_told) (defScope st__law_told) .none kV33 dc33 pm33 an33 cd33 ct33), sl33⟩) (c33 : PySem.W.codeIn K cd33 "_law_told" = true) (k33 : PySem.W.keepIn K (.ref f33) = true)
    {f34 : Addr} {od34 an34 : Option Addr} {sl34 : Array (Option Value)} {oc34 kV34 dc34 pm34 cd34 ct34 : Value}
    (a34 : PySem.W.nsIn K mainGlobals "_law_worded" = some (some (.ref f34))) (l34 : K.lookup f34 = some ⟨oc34, od34, .func (PySem.W.fnOf "_law_worded" "_law_worded" (defArgs st__law_worded) (defBody st__law_worded) (defScope st__law_worded) .none kV34 dc34 pm34 an34 cd34 ct34), sl34⟩) (c34 : PySem.W.codeIn K cd34 "_law_worded" = true) (k34 : PySem.W.keepIn K (.ref f34) = true)
    {f35 : Addr} {od35 an35 : Option Addr} {sl35 : Array (Option Value)} {oc35 kV35 dc35 pm35 cd35 ct35 : Value}
    (a35 : PySem.W.nsIn K mainGlobals "_law_due" = some (some (.ref f35))) (l35 : K.lookup f35 = some ⟨oc35, od35, .func (PySem.W.fnOf "_law_due" "_law_due" (defArgs st__law_due) (defBody st__law_due) (defScope st__law_due) .none kV35 dc35 pm35 an35 cd35 ct35), sl35⟩) (c35 : PySem.W.codeIn K cd35 "_law_due" = true) (k35 : PySem.W.keepIn K (.ref f35) = true)
    {f36 : Addr} {od36 an36 : Option Addr} {sl36 : Array (Option Value)} {oc36 kV36 dc36 pm36 cd36 ct36 : Value}
    (a36 : PySem.W.nsIn K mainGlobals "_law_handle" = some (some (.ref f36))) (l36 : K.lookup f36 = some ⟨oc36, od36, .func (PySem.W.fnOf "_law_handle" "_law_handle" (defArgs st__law_handle) (defBody st__law_handle) (defScope st__law_handle) .none kV36 dc36 pm36 an36 cd36 ct36), sl36⟩) (c36 : PySem.W.codeIn K cd36 "_law_handle" = true) (k36 : PySem.W.keepIn K (.ref f36) = true)
    {f37 : Addr} {od37 an37 : Option Addr} {sl37 : Array (Option Value)} {oc37 kV37 dc37 pm37 cd37 ct37 : Value}
    (a37 : PySem.W.nsIn K mainGlobals "_law_drawn_value" = some (some (.ref f37))) (l37 : K.lookup f37 = some ⟨oc37, od37, .func (PySem.W.fnOf "_law_drawn_value" "_law_drawn_value" (defArgs st__law_drawn_value) (defBody st__law_drawn_value) (defScope st__law_drawn_value) .none kV37 dc37 pm37 an37 cd37 ct37), sl37⟩) (c37 : PySem.W.codeIn K cd37 "_law_drawn_value" = true) (k37 : PySem.W.keepIn K (.ref f37) = true)
    {f38 : Addr} {od38 an38 : Option Addr} {sl38 : Array (Option Value)} {oc38 kV38 dc38 pm38 cd38 ct38 : Value}
    (a38 : PySem.W.nsIn K mainGlobals "_law_drawn" = some (some (.ref f38))) (l38 : K.lookup f38 = some ⟨oc38, od38, .func (PySem.W.fnOf "_law_drawn" "_law_drawn" (defArgs st__law_drawn) (defBody st__law_drawn) (defScope st__law_drawn) .none kV38 dc38 pm38 an38 cd38 ct38), sl38⟩) (c38 : PySem.W.codeIn K cd38 "_law_drawn" = true) (k38 : PySem.W.keepIn K (.ref f38) = true)
    {f39 : Addr} {od39 an39 : Option Addr} {sl39 : Array (Option Value)} {oc39 kV39 dc39 pm39 cd39 ct39 : Value}
    (a39 : PySem.W.nsIn K mainGlobals "law" = some (some (.ref f39))) (l39 : K.lookup f39 = some ⟨oc39, od39, .func (PySem.W.fnOf "law" "law" (defArgs st_law) (defBody st_law) (defScope st_law) .none kV39 dc39 pm39 an39 cd39 ct39), sl39⟩) (c39 : PySem.W.codeIn K cd39 "law" = true) (k39 : PySem.W.keepIn K (.ref f39) = true)
    (z_isinstance : PySem.W.nsIn K mainGlobals "isinstance" = some none)
    (z_len : PySem.W.nsIn K mainGlobals "len" = some none)
    (z_all : PySem.W.nsIn K mainGlobals "all" = some none)
    (z_any : PySem.W.nsIn K mainGlobals "any" = some none)
    (z_tuple : PySem.W.nsIn K mainGlobals "tuple" = some none)
    (z_int : PySem.W.nsIn K mainGlobals "int" = some none)
    (z_bool : PySem.W.nsIn K mainGlobals "bool" = some none)
    (z_list : PySem.W.nsIn K mainGlobals "list" = some none)
    (z_range : PySem.W.nsIn K mainGlobals "range" = some none)
    (z_enumerate : PySem.W.nsIn K mainGlobals "enumerate" = some none)
    (z_sorted : PySem.W.nsIn K mainGlobals "sorted" = some none)
    (z_sum : PySem.W.nsIn K mainGlobals "sum" = some none)
    (z_set : PySem.W.nsIn K mainGlobals "set" = some none)
    (z_zip : PySem.W.nsIn K mainGlobals "zip" = some none)
    (z_max : PySem.W.nsIn K mainGlobals "max" = some none)
    (z_min : PySem.W.nsIn K mainGlobals "min" = some none)
    (z_str : PySem.W.nsIn K mainGlobals "str" = some none)
    (z_abs : PySem.W.nsIn K mainGlobals "abs" = some none)
    {t_MOST_CELLS : Tok} (v_MOST_CELLS : PySem.W.nsIn K mainGlobals "MOST_CELLS" = some (some (.int 10000 t_MOST_CELLS)))
    {t_MOST_SLOTS : Tok} (v_MOST_SLOTS : PySem.W.nsIn K mainGlobals "MOST_SLOTS" = some (some (.int 1000 t_MOST_SLOTS)))
    (np0 : npB K = true)
    (xd_hr : PySem.W.exmOne K (.ref X1) (.ref X0) = some false)
    (xd_cr : PySem.W.exmOne K (.ref X2) (.ref X0) = some false)
    (xd_ch : PySem.W.exmOne K (.ref X2) (.ref X1) = some false)
    (xd_vr : PySem.W.exmOne K (.ref X3) (.ref X0) = some false)
    (xd_vh : PySem.W.exmOne K (.ref X3) (.ref X1) = some false)
    (xd_vc : PySem.W.exmOne K (.ref X3) (.ref X2) = some false)
    (xd_mr : PySem.W.exmOne K (.ref X4) (.ref X0) = some false)
    (xd_mh : PySem.W.exmOne K (.ref X4) (.ref X1) = some false)
    (xd_mc : PySem.W.exmOne K (.ref X4) (.ref X2) = some false)
    (xd_mv : PySem.W.exmOne K (.ref X4) (.ref X3) = some false) :
    ∃ fd : FuncData, (∀ (s : Shared) (v : Value), BindsTo s fd ⟨[v], []⟩ [("script", v)]) ∧ ∀ base : Heap, K.In base → base.Ns mainGlobals mg → FnOk l.prog w K mg base CX0 8 fa fd ["script"] (sp_lawT K) := by
  have e := hfa.symm.trans (PySem.W.mg_of X G a39)
  cases e
  have T : Txt K mg := { n_isinstance := PySem.W.mg_none_of X G z_isinstance, n_len := PySem.W.mg_none_of X G z_len, n_all := PySem.W.mg_none_of X G z_all, n_any := PySem.W.mg_none_of X G z_any, n_tuple := PySem.W.mg_none_of X G z_tuple, n_int := PySem.W.mg_none_of X G z_int, n_bool := PySem.W.mg_none_of X G z_bool, n_list := PySem.W.mg_none_of X G z_list, n_range := PySem.W.mg_none_of X G z_range, n_enumerate := PySem.W.mg_none_of X G z_enumerate, n_sorted := PySem.W.mg_none_of X G z_sorted, n_sum := PySem.W.mg_none_of X G z_sum, n_set := PySem.W.mg_none_of X G z_set, n_zip := PySem.W.mg_none_of X G z_zip, n_max := PySem.W.mg_none_of X G z_max, n_min := PySem.W.mg_none_of X G z_min, n_str := PySem.W.mg_none_of X G z_str, n_abs := PySem.W.mg_none_of X G z_abs, c_MOST_CELLS := ⟨_, PySem.W.mg_of X G v_MOST_CELLS, ⟨_, rfl⟩⟩, c_MOST_SLOTS := ⟨_, PySem.W.mg_of X G v_MOST_SLOTS, ⟨_, rfl⟩⟩ }
  have XX_NoRoom : XCls K mg "NoRoom" X0 := ⟨PySem.W.mg_of X G gX0, xX0, kX0, eX0, tX0, isX0, sfX0⟩
  have XX_BadHandle : XCls K mg "BadHandle" X1 := ⟨PySem.W.mg_of X G gX1, xX1, kX1, eX1, tX1, isX1, sfX1⟩
  have XX_BadCell : XCls K mg "BadCell" X2 := ⟨PySem.W.mg_of X G gX2, xX2, kX2, eX2, tX2, isX2, sfX2⟩
  have XX_BadValue : XCls K mg "BadValue" X3 := ⟨PySem.W.mg_of X G gX3, xX3, kX3, eX3, tX3, isX3, sfX3⟩
  have XX_BadMove : XCls K mg "BadMove" X4 := ⟨PySem.W.mg_of X G gX4, xX4, kX4, eX4, tX4, isX4, sfX4⟩
  have S_Memory : SrcC K mg "Memory" C "Memory.__init__" st_Memory_init ["self", "cells", "slots"] := ⟨fC_init, _, PySem.W.mg_of X G gC, ⟨mkC, aC_init, iC_init, kpC⟩, fun_mk (st := st_Memory_init) lC_init cC_init kC_init, (fun_mk (st := st_Memory_init) lC_init cC_init kC_init).binds (ps := ["self", "cells", "slots"]) fun _ _ _ _ _ _ us hl => match us, hl with | [_, _, _], _ => rfl⟩
  have S_Memory_cells : SrcM K C "cells" "Memory.cells" st_Memory_cells ["self"] := ⟨fC_cells, _, ⟨aC_cells, iC_cells, kC_cells⟩, fun_mk (st := st_Memory_cells) lC_cells cC_cells kC_cells, (fun_mk (st := st_Memory_cells) lC_cells cC_cells kC_cells).binds (ps := ["self"]) fun _ _ _ _ _ _ us hl => match us, hl with | [_], _ => rfl⟩
  have S_Memory_slots : SrcM K C "slots" "Memory.slots" st_Memory_slots ["self"] := ⟨fC_slots, _, ⟨aC_slots, iC_slots, kC_slots⟩, fun_mk (st := st_Memory_slots) lC_slots cC_slots kC_slots, (fun_mk (st := st_Memory_slots) lC_slots cC_slots kC_slots).binds (ps := ["self"]) fun _ _ _ _ _ _ us hl => match us, hl with | [_], _ => rfl⟩
  have S_Memory_end : SrcM K C "end" "Memory.end" st_Memory_end ["self"] := ⟨fC_end, _, ⟨aC_end, iC_end, kC_end⟩, fun_mk (st := st_Memory_end) lC_end cC_end kC_end, (fun_mk (st := st_Memory_end) lC_end cC_end kC_end).binds (ps := ["self"]) fun _ _ _ _ _ _ us hl => match us, hl with | [_], _ => rfl⟩
  have S_Memory_live : SrcM K C "live" "Memory.live" st_Memory_live ["self"] := ⟨fC_live, _, ⟨aC_live, iC_live, kC_live⟩, fun_mk (st := st_Memory_live) lC_live cC_live kC_live, (fun_mk (st := st_Memory_live) lC_live cC_live kC_live).binds (ps := ["self"]) fun _ _ _ _ _ _ us hl => match us, hl with | [_], _ => rfl⟩
  have S_Memory_entry_at : SrcM K C "_entry_at" "Memory._entry_at" st_Memory_entry_at ["self", "slot"] := ⟨fC_entry_at, _, ⟨aC_entry_at, iC_entry_at, kC_entry_at⟩, fun_mk (st := st_Memory_entry_at) lC_entry_at cC_entry_at kC_entry_at, (fun_mk (st := st_Memory_entry_at) lC_entry_at cC_entry_at kC_entry_at).binds (ps := ["self", "slot"]) fun _ _ _ _ _ _ us hl => match us, hl with | [_, _], _ => rfl⟩
  have S_Memory_entry : SrcM K C "_entry" "Memory._entry" st_Memory_entry ["self", "handle"] := ⟨fC_entry, _, ⟨aC_entry, iC_entry, kC_entry⟩, fun_mk (st := st_Memory_entry) lC_entry cC_entry kC_entry, (fun_mk (st := st_Memory_entry) lC_entry cC_entry kC_entry).binds (ps := ["self", "handle"]) fun _ _ _ _ _ _ us hl => match us, hl with | [_, _], _ => rfl⟩
  have S_Memory_is_live : SrcM K C "is_live" "Memory.is_live" st_Memory_is_live ["self", "handle"] := ⟨fC_is_live, _, ⟨aC_is_live, iC_is_live, kC_is_live⟩, fun_mk (st := st_Memory_is_live) lC_is_live cC_is_live kC_is_live, (fun_mk (st := st_Memory_is_live) lC_is_live cC_is_live kC_is_live).binds (ps := ["self", "handle"]) fun _ _ _ _ _ _ us hl => match us, hl with | [_, _], _ => rfl⟩
  have S_Memory_fits : SrcM K C "fits" "Memory.fits" st_Memory_fits ["self", "size"] := ⟨fC_fits, _, ⟨aC_fits, iC_fits, kC_fits⟩, fun_mk (st := st_Memory_fits) lC_fits cC_fits kC_fits, (fun_mk (st := st_Memory_fits) lC_fits cC_fits kC_fits).binds (ps := ["self", "size"]) fun _ _ _ _ _ _ us hl => match us, hl with | [_, _], _ => rfl⟩
  have S_Memory_reserve : SrcM K C "reserve" "Memory.reserve" st_Memory_reserve ["self", "size"] := ⟨fC_reserve, _, ⟨aC_reserve, iC_reserve, kC_reserve⟩, fun_mk (st := st_Memory_reserve) lC_reserve cC_reserve kC_reserve, (fun_mk (st := st_Memory_reserve) lC_reserve cC_reserve kC_reserve).binds (ps := ["self", "size"]) fun _ _ _ _ _ _ us hl => match us, hl with | [_, _], _ => rfl⟩
  have S_Memory_spot : SrcM K C "_spot" "Memory._spot" st_Memory_spot ["self", "entry", "k"] := ⟨fC_spot, _, ⟨aC_spot, iC_spot, kC_spot⟩, fun_mk (st := st_Memory_spot) lC_spot cC_spot kC_spot, (fun_mk (st := st_Memory_spot) lC_spot cC_spot kC_spot).binds (ps := ["self", "entry", "k"]) fun _ _ _ _ _ _ us hl => match us, hl with | [_, _, _], _ => rfl⟩
  have S_Memory_fill : SrcM K C "fill" "Memory.fill" st_Memory_fill ["self", "handle"] := ⟨fC_fill, _, ⟨aC_fill, iC_fill, kC_fill⟩, fun_mk (st := st_Memory_fill) lC_fill cC_fill kC_fill, (fun_mk (st := st_Memory_fill) lC_fill cC_fill kC_fill).binds (ps := ["self", "handle"]) fun _ _ _ _ _ _ us hl => match us, hl with | [_, _], _ => rfl⟩
  have S_Memory_read : SrcM K C "read" "Memory.read" st_Memory_read ["self", "handle", "k"] := ⟨fC_read, _, ⟨aC_read, iC_read, kC_read⟩, fun_mk (st := st_Memory_read) lC_read cC_read kC_read, (fun_mk (st := st_Memory_read) lC_read cC_read kC_read).binds (ps := ["self", "handle", "k"]) fun _ _ _ _ _ _ us hl => match us, hl with | [_, _, _], _ => rfl⟩
  have S_Memory_write : SrcM K C "write" "Memory.write" st_Memory_write ["self", "handle", "k", "value"] := ⟨fC_write, _, ⟨aC_write, iC_write, kC_write⟩, fun_mk (st := st_Memory_write) lC_write cC_write kC_write, (fun_mk (st := st_Memory_write) lC_write cC_write kC_write).binds (ps := ["self", "handle", "k", "value"]) fun _ _ _ _ _ _ us hl => match us, hl with | [_, _, _, _], _ => rfl⟩
  have S_Memory_free : SrcM K C "free" "Memory.free" st_Memory_free ["self", "slot"] := ⟨fC_free, _, ⟨aC_free, iC_free, kC_free⟩, fun_mk (st := st_Memory_free) lC_free cC_free kC_free, (fun_mk (st := st_Memory_free) lC_free cC_free kC_free).binds (ps := ["self", "slot"]) fun _ _ _ _ _ _ us hl => match us, hl with | [_, _], _ => rfl⟩
  have S_Memory_place : SrcM K C "place" "Memory.place" st_Memory_place ["self", "handle", "k"] := ⟨fC_place, _, ⟨aC_place, iC_place, kC_place⟩, fun_mk (st := st_Memory_place) lC_place cC_place kC_place, (fun_mk (st := st_Memory_place) lC_place cC_place kC_place).binds (ps := ["self", "handle", "k"]) fun _ _ _ _ _ _ us hl => match us, hl with | [_, _, _], _ => rfl⟩
  have S_Memory_moving : SrcM K C "moving" "Memory.moving" st_Memory_moving ["self"] := ⟨fC_moving, _, ⟨aC_moving, iC_moving, kC_moving⟩, fun_mk (st := st_Memory_moving) lC_moving cC_moving kC_moving, (fun_mk (st := st_Memory_moving) lC_moving cC_moving kC_moving).binds (ps := ["self"]) fun _ _ _ _ _ _ us hl => match us, hl with | [_], _ => rfl⟩
  have S_Memory_begin_move : SrcM K C "begin_move" "Memory.begin_move" st_Memory_begin_move ["self", "slot", "to"] := ⟨fC_begin_move, _, ⟨aC_begin_move, iC_begin_move, kC_begin_move⟩, fun_mk (st := st_Memory_begin_move) lC_begin_move cC_begin_move kC_begin_move, (fun_mk (st := st_Memory_begin_move) lC_begin_move cC_begin_move kC_begin_move).binds (ps := ["self", "slot", "to"]) fun _ _ _ _ _ _ us hl => match us, hl with | [_, _, _], _ => rfl⟩
  have S_Memory_copy_cell : SrcM K C "copy_cell" "Memory.copy_cell" st_Memory_copy_cell ["self", "slot"] := ⟨fC_copy_cell, _, ⟨aC_copy_cell, iC_copy_cell, kC_copy_cell⟩, fun_mk (st := st_Memory_copy_cell) lC_copy_cell cC_copy_cell kC_copy_cell, (fun_mk (st := st_Memory_copy_cell) lC_copy_cell cC_copy_cell kC_copy_cell).binds (ps := ["self", "slot"]) fun _ _ _ _ _ _ us hl => match us, hl with | [_, _], _ => rfl⟩
  have S_Memory_turn : SrcM K C "turn" "Memory.turn" st_Memory_turn ["self", "slot"] := ⟨fC_turn, _, ⟨aC_turn, iC_turn, kC_turn⟩, fun_mk (st := st_Memory_turn) lC_turn cC_turn kC_turn, (fun_mk (st := st_Memory_turn) lC_turn cC_turn kC_turn).binds (ps := ["self", "slot"]) fun _ _ _ _ _ _ us hl => match us, hl with | [_, _], _ => rfl⟩
  have S_Memory_settle : SrcM K C "settle" "Memory.settle" st_Memory_settle ["self", "frontier"] := ⟨fC_settle, _, ⟨aC_settle, iC_settle, kC_settle⟩, fun_mk (st := st_Memory_settle) lC_settle cC_settle kC_settle, (fun_mk (st := st_Memory_settle) lC_settle cC_settle kC_settle).binds (ps := ["self", "frontier"]) fun _ _ _ _ _ _ us hl => match us, hl with | [_, _], _ => rfl⟩
  have S_Memory_state : SrcM K C "state" "Memory.state" st_Memory_state ["self"] := ⟨fC_state, _, ⟨aC_state, iC_state, kC_state⟩, fun_mk (st := st_Memory_state) lC_state cC_state kC_state, (fun_mk (st := st_Memory_state) lC_state cC_state kC_state).binds (ps := ["self"]) fun _ _ _ _ _ _ us hl => match us, hl with | [_], _ => rfl⟩
  have S_Memory_take : SrcM K C "take" "Memory.take" st_Memory_take ["self", "state"] := ⟨fC_take, _, ⟨aC_take, iC_take, kC_take⟩, fun_mk (st := st_Memory_take) lC_take cC_take kC_take, (fun_mk (st := st_Memory_take) lC_take cC_take kC_take).binds (ps := ["self", "state"]) fun _ _ _ _ _ _ us hl => match us, hl with | [_, _], _ => rfl⟩
  have S_Entry : SrcC K mg "Entry" E "Entry.__init__" st_Entry_init ["self"] := ⟨fE_init, _, PySem.W.mg_of X G gE, ⟨mkE, aE_init, iE_init, kpE⟩, fun_mk (st := st_Entry_init) lE_init cE_init kE_init, (fun_mk (st := st_Entry_init) lE_init cE_init kE_init).binds (ps := ["self"]) fun _ _ _ _ _ _ us hl => match us, hl with | [_], _ => rfl⟩
  have S_Entry_row : SrcM K E "row" "Entry.row" st_Entry_row ["self"] := ⟨fE_row, _, ⟨aE_row, iE_row, kE_row⟩, fun_mk (st := st_Entry_row) lE_row cE_row kE_row, (fun_mk (st := st_Entry_row) lE_row cE_row kE_row).binds (ps := ["self"]) fun _ _ _ _ _ _ us hl => match us, hl with | [_], _ => rfl⟩
  have S_Entry_high : SrcM K E "high" "Entry.high" st_Entry_high ["self"] := ⟨fE_high, _, ⟨aE_high, iE_high, kE_high⟩, fun_mk (st := st_Entry_high) lE_high cE_high kE_high, (fun_mk (st := st_Entry_high) lE_high cE_high kE_high).binds (ps := ["self"]) fun _ _ _ _ _ _ us hl => match us, hl with | [_], _ => rfl⟩
  have S_is_integer : Src K mg "is_integer" st_is_integer ["value"] := ⟨f1, _, PySem.W.mg_of X G a1, fun_mk (st := st_is_integer) l1 c1 k1, (fun_mk (st := st_is_integer) l1 c1 k1).binds (ps := ["value"]) fun _ _ _ _ _ _ us hl => match us, hl with | [_], _ => rfl⟩
  have S_is_count : Src K mg "is_count" st_is_count ["value"] := ⟨f2, _, PySem.W.mg_of X G a2, fun_mk (st := st_is_count) l2 c2 k2, (fun_mk (st := st_is_count) l2 c2 k2).binds (ps := ["value"]) fun _ _ _ _ _ _ us hl => match us, hl with | [_], _ => rfl⟩
  have S_is_handle : Src K mg "is_handle" st_is_handle ["value"] := ⟨f3, _, PySem.W.mg_of X G a3, fun_mk (st := st_is_handle) l3 c3 k3, (fun_mk (st := st_is_handle) l3 c3 k3).binds (ps := ["value"]) fun _ _ _ _ _ _ us hl => match us, hl with | [_], _ => rfl⟩
  have S_is_value : Src K mg "is_value" st_is_value ["value"] := ⟨f4, _, PySem.W.mg_of X G a4, fun_mk (st := st_is_value) l4 c4 k4, (fun_mk (st := st_is_value) l4 c4 k4).binds (ps := ["value"]) fun _ _ _ _ _ _ us hl => match us, hl with | [_], _ => rfl⟩
  have S_is_row : Src K mg "is_row" st_is_row ["value"] := ⟨f5, _, PySem.W.mg_of X G a5, fun_mk (st := st_is_row) l5 c5 k5, (fun_mk (st := st_is_row) l5 c5 k5).binds (ps := ["value"]) fun _ _ _ _ _ _ us hl => match us, hl with | [_], _ => rfl⟩
  have S_is_sound : Src K mg "is_sound" st_is_sound ["rows", "end"] := ⟨f6, _, PySem.W.mg_of X G a6, fun_mk (st := st_is_sound) l6 c6 k6, (fun_mk (st := st_is_sound) l6 c6 k6).binds (ps := ["rows", "end"]) fun _ _ _ _ _ _ us hl => match us, hl with | [_, _], _ => rfl⟩
  have S_is_state : Src K mg "is_state" st_is_state ["value"] := ⟨f7, _, PySem.W.mg_of X G a7, fun_mk (st := st_is_state) l7 c7 k7, (fun_mk (st := st_is_state) l7 c7 k7).binds (ps := ["value"]) fun _ _ _ _ _ _ us hl => match us, hl with | [_], _ => rfl⟩
  have S_restored : Src K mg "restored" st_restored ["state"] := ⟨f8, _, PySem.W.mg_of X G a8, fun_mk (st := st_restored) l8 c8 k8, (fun_mk (st := st_restored) l8 c8 k8).binds (ps := ["state"]) fun _ _ _ _ _ _ us hl => match us, hl with | [_], _ => rfl⟩
  have S__law_cell : Src K mg "_law_cell" st__law_cell ["script", "k"] := ⟨f9, _, PySem.W.mg_of X G a9, fun_mk (st := st__law_cell) l9 c9 k9, (fun_mk (st := st__law_cell) l9 c9 k9).binds (ps := ["script", "k"]) fun _ _ _ _ _ _ us hl => match us, hl with | [_, _], _ => rfl⟩
  have S__law_rich : Src K mg "_law_rich" st__law_rich ["cell", "k"] := ⟨f10, _, PySem.W.mg_of X G a10, fun_mk (st := st__law_rich) l10 c10 k10, (fun_mk (st := st__law_rich) l10 c10 k10).binds (ps := ["cell", "k"]) fun _ _ _ _ _ _ us hl => match us, hl with | [_, _], _ => rfl⟩
  have S__law_same : Src K mg "_law_same" st__law_same ["actual", "due"] := ⟨f11, _, PySem.W.mg_of X G a11, fun_mk (st := st__law_same) l11 c11 k11, (fun_mk (st := st__law_same) l11 c11 k11).binds (ps := ["actual", "due"]) fun _ _ _ _ _ _ us hl => match us, hl with | [_, _], _ => rfl⟩
  have S__law_is_integer : Src K mg "_law_is_integer" st__law_is_integer ["value"] := ⟨f12, _, PySem.W.mg_of X G a12, fun_mk (st := st__law_is_integer) l12 c12 k12, (fun_mk (st := st__law_is_integer) l12 c12 k12).binds (ps := ["value"]) fun _ _ _ _ _ _ us hl => match us, hl with | [_], _ => rfl⟩
  have S__law_is_handle : Src K mg "_law_is_handle" st__law_is_handle ["value"] := ⟨f13, _, PySem.W.mg_of X G a13, fun_mk (st := st__law_is_handle) l13 c13 k13, (fun_mk (st := st__law_is_handle) l13 c13 k13).binds (ps := ["value"]) fun _ _ _ _ _ _ us hl => match us, hl with | [_], _ => rfl⟩
  have S__law_is_value : Src K mg "_law_is_value" st__law_is_value ["value"] := ⟨f14, _, PySem.W.mg_of X G a14, fun_mk (st := st__law_is_value) l14 c14 k14, (fun_mk (st := st__law_is_value) l14 c14 k14).binds (ps := ["value"]) fun _ _ _ _ _ _ us hl => match us, hl with | [_], _ => rfl⟩
  have S__law_model : Src K mg "_law_model" st__law_model ["cells", "slots"] := ⟨f15, _, PySem.W.mg_of X G a15, fun_mk (st := st__law_model) l15 c15 k15, (fun_mk (st := st__law_model) l15 c15 k15).binds (ps := ["cells", "slots"]) fun _ _ _ _ _ _ us hl => match us, hl with | [_, _], _ => rfl⟩
  have S__law_state : Src K mg "_law_state" st__law_state ["model"] := ⟨f16, _, PySem.W.mg_of X G a16, fun_mk (st := st__law_state) l16 c16 k16, (fun_mk (st := st__law_state) l16 c16 k16).binds (ps := ["model"]) fun _ _ _ _ _ _ us hl => match us, hl with | [_], _ => rfl⟩
  have S__law_live : Src K mg "_law_live" st__law_live ["model"] := ⟨f17, _, PySem.W.mg_of X G a17, fun_mk (st := st__law_live) l17 c17 k17, (fun_mk (st := st__law_live) l17 c17 k17).binds (ps := ["model"]) fun _ _ _ _ _ _ us hl => match us, hl with | [_], _ => rfl⟩
  have S__law_row : Src K mg "_law_row" st__law_row ["model", "slot"] := ⟨f18, _, PySem.W.mg_of X G a18, fun_mk (st := st__law_row) l18 c18 k18, (fun_mk (st := st__law_row) l18 c18 k18).binds (ps := ["model", "slot"]) fun _ _ _ _ _ _ us hl => match us, hl with | [_, _], _ => rfl⟩
  have S__law_named : Src K mg "_law_named" st__law_named ["model", "handle"] := ⟨f19, _, PySem.W.mg_of X G a19, fun_mk (st := st__law_named) l19 c19 k19, (fun_mk (st := st__law_named) l19 c19 k19).binds (ps := ["model", "handle"]) fun _ _ _ _ _ _ us hl => match us, hl with | [_, _], _ => rfl⟩
  have S__law_spot : Src K mg "_law_spot" st__law_spot ["row", "k"] := ⟨f20, _, PySem.W.mg_of X G a20, fun_mk (st := st__law_spot) l20 c20 k20, (fun_mk (st := st__law_spot) l20 c20 k20).binds (ps := ["row", "k"]) fun _ _ _ _ _ _ us hl => match us, hl with | [_, _], _ => rfl⟩
  have S__law_count_below : Src K mg "_law_count_below" st__law_count_below ["k", "most"] := ⟨f21, _, PySem.W.mg_of X G a21, fun_mk (st := st__law_count_below) l21 c21 k21, (fun_mk (st := st__law_count_below) l21 c21 k21).binds (ps := ["k", "most"]) fun _ _ _ _ _ _ us hl => match us, hl with | [_, _], _ => rfl⟩
  have S__law_reserve : Src K mg "_law_reserve" st__law_reserve ["model", "size"] := ⟨f22, _, PySem.W.mg_of X G a22, fun_mk (st := st__law_reserve) l22 c22 k22, (fun_mk (st := st__law_reserve) l22 c22 k22).binds (ps := ["model", "size"]) fun _ _ _ _ _ _ us hl => match us, hl with | [_, _], _ => rfl⟩
  have S__law_fill : Src K mg "_law_fill" st__law_fill ["model", "handle"] := ⟨f23, _, PySem.W.mg_of X G a23, fun_mk (st := st__law_fill) l23 c23 k23, (fun_mk (st := st__law_fill) l23 c23 k23).binds (ps := ["model", "handle"]) fun _ _ _ _ _ _ us hl => match us, hl with | [_, _], _ => rfl⟩
  have S__law_read : Src K mg "_law_read" st__law_read ["model", "handle", "k"] := ⟨f24, _, PySem.W.mg_of X G a24, fun_mk (st := st__law_read) l24 c24 k24, (fun_mk (st := st__law_read) l24 c24 k24).binds (ps := ["model", "handle", "k"]) fun _ _ _ _ _ _ us hl => match us, hl with | [_, _, _], _ => rfl⟩
  have S__law_write : Src K mg "_law_write" st__law_write ["model", "handle", "k", "value"] := ⟨f25, _, PySem.W.mg_of X G a25, fun_mk (st := st__law_write) l25 c25 k25, (fun_mk (st := st__law_write) l25 c25 k25).binds (ps := ["model", "handle", "k", "value"]) fun _ _ _ _ _ _ us hl => match us, hl with | [_, _, _, _], _ => rfl⟩
  have S__law_place : Src K mg "_law_place" st__law_place ["model", "handle", "k"] := ⟨f26, _, PySem.W.mg_of X G a26, fun_mk (st := st__law_place) l26 c26 k26, (fun_mk (st := st__law_place) l26 c26 k26).binds (ps := ["model", "handle", "k"]) fun _ _ _ _ _ _ us hl => match us, hl with | [_, _, _], _ => rfl⟩
  have S__law_free : Src K mg "_law_free" st__law_free ["model", "slot"] := ⟨f27, _, PySem.W.mg_of X G a27, fun_mk (st := st__law_free) l27 c27 k27, (fun_mk (st := st__law_free) l27 c27 k27).binds (ps := ["model", "slot"]) fun _ _ _ _ _ _ us hl => match us, hl with | [_, _], _ => rfl⟩
  have S__law_moving : Src K mg "_law_moving" st__law_moving ["model"] := ⟨f28, _, PySem.W.mg_of X G a28, fun_mk (st := st__law_moving) l28 c28 k28, (fun_mk (st := st__law_moving) l28 c28 k28).binds (ps := ["model"]) fun _ _ _ _ _ _ us hl => match us, hl with | [_], _ => rfl⟩
  have S__law_begin : Src K mg "_law_begin" st__law_begin ["model", "slot", "to"] := ⟨f29, _, PySem.W.mg_of X G a29, fun_mk (st := st__law_begin) l29 c29 k29, (fun_mk (st := st__law_begin) l29 c29 k29).binds (ps := ["model", "slot", "to"]) fun _ _ _ _ _ _ us hl => match us, hl with | [_, _, _], _ => rfl⟩
  have S__law_copy : Src K mg "_law_copy" st__law_copy ["model", "slot"] := ⟨f30, _, PySem.W.mg_of X G a30, fun_mk (st := st__law_copy) l30 c30 k30, (fun_mk (st := st__law_copy) l30 c30 k30).binds (ps := ["model", "slot"]) fun _ _ _ _ _ _ us hl => match us, hl with | [_, _], _ => rfl⟩
  have S__law_turn : Src K mg "_law_turn" st__law_turn ["model", "slot"] := ⟨f31, _, PySem.W.mg_of X G a31, fun_mk (st := st__law_turn) l31 c31 k31, (fun_mk (st := st__law_turn) l31 c31 k31).binds (ps := ["model", "slot"]) fun _ _ _ _ _ _ us hl => match us, hl with | [_, _], _ => rfl⟩
  have S__law_settle : Src K mg "_law_settle" st__law_settle ["model", "frontier"] := ⟨f32, _, PySem.W.mg_of X G a32, fun_mk (st := st__law_settle) l32 c32 k32, (fun_mk (st := st__law_settle) l32 c32 k32).binds (ps := ["model", "frontier"]) fun _ _ _ _ _ _ us hl => match us, hl with | [_, _], _ => rfl⟩
  have S__law_told : Src K mg "_law_told" st__law_told ["call", "memory", "one", "other", "third"] := ⟨f33, _, PySem.W.mg_of X G a33, fun_mk (st := st__law_told) l33 c33 k33, (fun_mk (st := st__law_told) l33 c33 k33).binds (ps := ["call", "memory", "one", "other", "third"]) fun _ _ _ _ _ _ us hl => match us, hl with | [_, _, _, _, _], _ => rfl⟩
  have S__law_worded : Src K mg "_law_worded" st__law_worded ["found"] := ⟨f34, _, PySem.W.mg_of X G a34, fun_mk (st := st__law_worded) l34 c34 k34, (fun_mk (st := st__law_worded) l34 c34 k34).binds (ps := ["found"]) fun _ _ _ _ _ _ us hl => match us, hl with | [_], _ => rfl⟩
  have S__law_due : Src K mg "_law_due" st__law_due ["call", "model", "one", "other", "third"] := ⟨f35, _, PySem.W.mg_of X G a35, fun_mk (st := st__law_due) l35 c35 k35, (fun_mk (st := st__law_due) l35 c35 k35).binds (ps := ["call", "model", "one", "other", "third"]) fun _ _ _ _ _ _ us hl => match us, hl with | [_, _, _, _, _], _ => rfl⟩
  have S__law_handle : Src K mg "_law_handle" st__law_handle ["model", "rich"] := ⟨f36, _, PySem.W.mg_of X G a36, fun_mk (st := st__law_handle) l36 c36 k36, (fun_mk (st := st__law_handle) l36 c36 k36).binds (ps := ["model", "rich"]) fun _ _ _ _ _ _ us hl => match us, hl with | [_, _], _ => rfl⟩
  have S__law_drawn_value : Src K mg "_law_drawn_value" st__law_drawn_value ["model", "rich"] := ⟨f37, _, PySem.W.mg_of X G a37, fun_mk (st := st__law_drawn_value) l37 c37 k37, (fun_mk (st := st__law_drawn_value) l37 c37 k37).binds (ps := ["model", "rich"]) fun _ _ _ _ _ _ us hl => match us, hl with | [_, _], _ => rfl⟩
  have S__law_drawn : Src K mg "_law_drawn" st__law_drawn ["model", "rich"] := ⟨f38, _, PySem.W.mg_of X G a38, fun_mk (st := st__law_drawn) l38 c38 k38, (fun_mk (st := st__law_drawn) l38 c38 k38).binds (ps := ["model", "rich"]) fun _ _ _ _ _ _ us hl => match us, hl with | [_, _], _ => rfl⟩
  have FL := fun_mk (st := st_law) l39 c39 k39
  have np := np_of np0
  have XD : XDif K (⟨X0, X1, X2, X3, X4⟩ : XA) := ⟨xd_hr, xd_cr, xd_ch, xd_vr, xd_vh, xd_vc, xd_mr, xd_mh, xd_mc, xd_mv⟩
  have MT : MTxt K C := ⟨⟨pgC, hdC, poC, saC⟩, nC__arena, nC__table, nC__end⟩
  have ET : ETxt K E := ⟨⟨pgE, hdE, poE, saE⟩, nE_stamp, nE_live, nE_size, nE_start, nE_filled, nE_to, nE_done, nE_mark, nE_black⟩
  refine ⟨PySem.W.fnOf "law" "law" (defArgs st_law) (defBody st_law) (defScope st_law) .none kV39 dc39 pm39 an39 cd39 ct39, fun s v => .of_eq rfl, fun base _ _ => ?_⟩
  have C_is_integer := cal_is_integer (P := l.prog) (w := w) (base := base) S_is_integer T
  have C_is_count := cal_is_count S_is_count T C_is_integer
  have C_is_handle := cal_is_handle S_is_handle T C_is_count
  have C_is_value := cal_is_value S_is_value T C_is_integer C_is_handle
  have C_is_row := cal_is_row S_is_row T C_is_count
  have C_is_sound := cal_is_sound (P := l.prog) (w := w) (base := base) S_is_sound T np
  have C_is_state := cal_is_state S_is_state T C_is_count C_is_value C_is_row C_is_sound
  have M_row := cal_row (P := l.prog) (w := w) (base := base) S_Entry_row T ET
  have M_high := cal_high (P := l.prog) (w := w) (base := base) S_Entry_high T ET
  have M_is_live := cal_is_live S_Memory_is_live T MT ET C_is_handle
  have M__entry := cal_entry S_Memory_entry T MT ET XX_BadHandle M_is_live
  have M__entry_at := cal_entry_at S_Memory_entry_at T MT ET XX_BadHandle C_is_count
  have M_live := cal_live (P := l.prog) (w := w) (base := base) S_Memory_live T MT ET
  have M__spot := cal_spot (P := l.prog) (w := w) (base := base) S_Memory_spot T ET
  have M_moving := cal_moving (P := l.prog) (w := w) (base := base) S_Memory_moving T MT ET
  have M_fits := cal_fits S_Memory_fits T MT M_live
  have X_read := cal_read (x := (⟨X0, X1, X2, X3, X4⟩ : XA)) S_Memory_read T MT ET XX_BadCell C_is_count M__spot M__entry
  have X_place := cal_place (x := (⟨X0, X1, X2, X3, X4⟩ : XA)) S_Memory_place T MT ET XX_BadCell C_is_count M__spot M__entry
  have X_free := cal_free (x := (⟨X0, X1, X2, X3, X4⟩ : XA)) S_Memory_free T MT ET XX_BadMove M__entry_at
  have X_fill := cal_fill (x := (⟨X0, X1, X2, X3, X4⟩ : XA)) S_Memory_fill T MT ET XX_BadCell M__spot M__entry
  have X_write := cal_write (x := (⟨X0, X1, X2, X3, X4⟩ : XA)) S_Memory_write T MT ET XX_BadCell XX_BadValue C_is_count C_is_value M__spot M__entry
  have X_turn := cal_turn (x := (⟨X0, X1, X2, X3, X4⟩ : XA)) S_Memory_turn T MT ET XX_BadMove M__entry_at
  have X_copy_cell := cal_copy (x := (⟨X0, X1, X2, X3, X4⟩ : XA)) S_Memory_copy_cell T MT ET XX_BadMove M__entry_at
  have M_state := cal_state S_Memory_state T MT ET M_row
  have M_take := cal_take (P := l.prog) (w := w) (base := base) S_Memory_take T MT ET
  have X_settle := cal_settle (x := (⟨X0, X1, X2, X3, X4⟩ : XA)) S_Memory_settle T MT ET XX_BadMove C_is_count M_moving M_high
  have X_begin_move := cal_begin (x := (⟨X0, X1, X2, X3, X4⟩ : XA)) S_Memory_begin_move T MT ET XX_BadMove C_is_count M__entry_at M_moving M_high
  have C_Entry := cal_Entry (P := l.prog) (w := w) (base := base) S_Entry T ET
  have X_reserve := cal_reserve (x := (⟨X0, X1, X2, X3, X4⟩ : XA)) S_Memory_reserve T MT ET XX_NoRoom M_fits
  have C_Memory := cal_Memory S_Memory T MT ET C_is_integer C_Entry
  have C_restored := cal_restored S_restored T MT C_is_state C_Memory M_take
  have C_int := cal_lint (P := l.prog) (w := w) (base := base) S__law_is_integer T
  have C_hdl := cal_lhandle S__law_is_handle T C_int
  have C_val := cal_lvalue S__law_is_value T C_int C_hdl
  have C_below := cal_below S__law_count_below T C_int
  have C_spot := cal_lspot (P := l.prog) (w := w) (base := base) S__law_spot T
  have C_row := cal_lrow (P := l.prog) (w := w) (base := base) S__law_row T
  have C_live := cal_llive (P := l.prog) (w := w) (base := base) S__law_live T
  have C_named := cal_lnamed S__law_named T C_int C_row
  have C_moving := cal_lmoving S__law_moving T C_live
  have C_fill := cal_lfill S__law_fill T C_named C_spot
  have C_read := cal_lread S__law_read T C_named C_below C_spot
  have C_write := cal_lwrite S__law_write T C_named C_below C_val C_spot
  have C_free := cal_lfree S__law_free T C_row
  have C_copy := cal_lcopy S__law_copy T C_row
  have C_turn := cal_lturn S__law_turn T C_row
  have C_settle := cal_lsettle S__law_settle T C_live C_moving C_below
  have C_begin := cal_lbegin S__law_begin T C_live C_moving C_below C_row
  have C_reserve := cal_lreserve (P := l.prog) (w := w) (base := base) S__law_reserve T
  have C_model := cal_lmodel (P := l.prog) (w := w) (base := base) S__law_model T
  have C_state := cal_lstate (P := l.prog) (w := w) (base := base) S__law_state T
  have C_place : Cal l.prog w K mg base CX0 1 "_law_place" ["model", "handle", "k"] (SpW K D_no) := cal_none S__law_place fun _ _ _ z => z
  have C_worded := cal_worded (P := l.prog) (w := w) (base := base) S__law_worded T
  have C_due := cal_due S__law_due T C_worded C_reserve C_fill C_read C_write C_place C_free C_begin C_copy C_turn C_settle
  have C_told := cal_told (x := (⟨X0, X1, X2, X3, X4⟩ : XA)) S__law_told T MT XD XX_NoRoom XX_BadHandle XX_BadCell XX_BadValue XX_BadMove X_reserve X_fill X_read X_write X_place X_free X_begin_move X_copy_cell X_turn X_settle
  have C_handle := cal_lhdl (P := l.prog) (w := w) (base := base) S__law_handle T
  have C_dv := cal_ldv S__law_drawn_value T C_handle
  have C_drawn := cal_ldrawn S__law_drawn T C_handle C_dv C_live C_moving C_row
  have C_cell := cal_cell (P := l.prog) (w := w) (base := base) S__law_cell T
  have C_rich := cal_rich (P := l.prog) (w := w) (base := base) S__law_rich T
  have C_same := cal_same (P := l.prog) (w := w) (base := base) S__law_same T 4
  exact lawT (law_body FL T MT C_cell C_rich C_same C_Memory C_model C_state C_restored C_drawn C_due C_told M_state)
end
theorem walk {l : PySem.W.OpenLaw} {q : Program} {loose : List Str} {XP : (Str → Option Value) → Heap → Prop} {YP : World → Heap → Prop} {d : DefRec} {K : Params → PySem.W.Frag} (hn : l.most = some 63) (hdf : d.params.defaults = [])
    (hY : ∀ (w : World) (h : Heap), YP w h → (K w.params).In h)
    (F : ∀ (w : World) (mg : Str → Option Value) (fa : Addr) (h : Heap), (K w.params).In h → h.Ns mainGlobals mg → mg d.name = some (.ref fa) →
      ∃ fd : FuncData, (∀ (s : Shared) (u : Value), BindsTo s fd ⟨[u], []⟩ [("script", u)]) ∧ ∀ base : Heap, (K w.params).In base → base.Ns mainGlobals mg → FnOk l.prog w (K w.params) mg base CX0 8 fa fd ["script"] (sp_lawT (K w.params))) :
    PySem.W.WalkO q loose XP YP l.row.toRowW d [] (fun f vs => PySem.call f vs) :=
  L2.walk_of (n := 63) (k := 8) (x := "script") (CX := fun _ => CX0) (sp := fun w => sp_lawT (K w.params)) hn (by decide) hdf ⟨rfl, by decide, by decide⟩ hY F (fun _ _ a ns hl _ hS => ⟨a, ns, rfl, hS, hl, fun _ => rfl⟩) fun _ _ _ _ _ z => z
end K15
open PySem PySem.W PyProof.Rows
set_option maxRecDepth 100000 in
set_option maxHeartbeats 0 in
theorem PySem.Challenge.cw_gleanworld_k15_whole_restored_goes_on_holds : PySem.Challenge.rw_gleanworld_k15_whole_restored_goes_on.Holds := by
  w_on; o_law; k_head; (case hw => w_witness2)
  k_fill
  refine K15.walk (l := PySem.Challenge.rw_gleanworld_k15_whole_restored_goes_on) rfl rfl (fun w h Y => PySem.W.kIn_of Y) ?F
  case F =>
    intro w mg fa h KX G hmg
    refine' K15.all_mk KX G hmg ?gX0 ?xX0 ?kX0 ?eX0 ?tX0 ?isX0 ?sfX0 ?gX1 ?xX1 ?kX1 ?eX1 ?tX1 ?isX1 ?sfX1 ?gX2 ?xX2 ?kX2 ?eX2 ?tX2 ?isX2 ?sfX2 ?gX3 ?xX3 ?kX3 ?eX3 ?tX3 ?isX3 ?sfX3 ?gX4 ?xX4 ?kX4 ?eX4 ?tX4 ?isX4 ?sfX4 ?gC ?pgC ?hdC ?poC ?saC ?mkC ?kpC ?nC__arena ?nC__table ?nC__end ?aC_init ?lC_init ?cC_init ?kC_init ?iC_init ?aC_cells ?lC_cells ?cC_cells ?kC_cells ?iC_cells ?aC_slots ?lC_slots ?cC_slots ?kC_slots ?iC_slots ?aC_end ?lC_end ?cC_end ?kC_end ?iC_end ?aC_live ?lC_live ?cC_live ?kC_live ?iC_live ?aC_entry_at ?lC_entry_at ?cC_entry_at ?kC_entry_at ?iC_entry_at ?aC_entry ?lC_entry ?cC_entry ?kC_entry ?iC_entry ?aC_is_live ?lC_is_live ?cC_is_live ?kC_is_live ?iC_is_live ?aC_fits ?lC_fits ?cC_fits ?kC_fits ?iC_fits ?aC_reserve ?lC_reserve ?cC_reserve ?kC_reserve ?iC_reserve ?aC_spot ?lC_spot ?cC_spot ?kC_spot ?iC_spot ?aC_fill ?lC_fill ?cC_fill ?kC_fill ?iC_fill ?aC_read ?lC_read ?cC_read ?kC_read ?iC_read ?aC_write ?lC_write ?cC_write ?kC_write ?iC_write ?aC_free ?lC_free ?cC_free ?kC_free ?iC_free ?aC_place ?lC_place ?cC_place ?kC_place ?iC_place ?aC_moving ?lC_moving ?cC_moving ?kC_moving ?iC_moving ?aC_begin_move ?lC_begin_move ?cC_begin_move ?kC_begin_move ?iC_begin_move ?aC_copy_cell ?lC_copy_cell ?cC_copy_cell ?kC_copy_cell ?iC_copy_cell ?aC_turn ?lC_turn ?cC_turn ?kC_turn ?iC_turn ?aC_settle ?lC_settle ?cC_settle ?kC_settle ?iC_settle ?aC_state ?lC_state ?cC_state ?kC_state ?iC_state ?aC_take ?lC_take ?cC_take ?kC_take ?iC_take ?gE ?pgE ?hdE ?poE ?saE ?mkE ?kpE ?nE_stamp ?nE_live ?nE_size ?nE_start ?nE_filled ?nE_to ?nE_done ?nE_mark ?nE_black ?aE_init ?lE_init ?cE_init ?kE_init ?iE_init ?aE_row ?lE_row ?cE_row ?kE_row ?iE_row ?aE_high ?lE_high ?cE_high ?kE_high ?iE_high ?a1 ?l1 ?c1 ?k1 ?a2 ?l2 ?c2 ?k2 ?a3 ?l3 ?c3 ?k3 ?a4 ?l4 ?c4 ?k4 ?a5 ?l5 ?c5 ?k5 ?a6 ?l6 ?c6 ?k6 ?a7 ?l7 ?c7 ?k7 ?a8 ?l8 ?c8 ?k8 ?a9 ?l9 ?c9 ?k9 ?a10 ?l10 ?c10 ?k10 ?a11 ?l11 ?c11 ?k11 ?a12 ?l12 ?c12 ?k12 ?a13 ?l13 ?c13 ?k13 ?a14 ?l14 ?c14 ?k14 ?a15 ?l15 ?c15 ?k15 ?a16 ?l16 ?c16 ?k16 ?a17 ?l17 ?c17 ?k17 ?a18 ?l18 ?c18 ?k18 ?a19 ?l19 ?c19 ?k19 ?a20 ?l20 ?c20 ?k20 ?a21 ?l21 ?c21 ?k21 ?a22 ?l22 ?c22 ?k22 ?a23 ?l23 ?c23 ?k23 ?a24 ?l24 ?c24 ?k24 ?a25 ?l25 ?c25 ?k25 ?a26 ?l26 ?c26 ?k26 ?a27 ?l27 ?c27 ?k27 ?a28 ?l28 ?c28 ?k28 ?a29 ?l29 ?c29 ?k29 ?a30 ?l30 ?c30 ?k30 ?a31 ?l31 ?c31 ?k31 ?a32 ?l32 ?c32 ?k32 ?a33 ?l33 ?c33 ?k33 ?a34 ?l34 ?c34 ?k34 ?a35 ?l35 ?c35 ?k35 ?a36 ?l36 ?c36 ?k36 ?a37 ?l37 ?c37 ?k37 ?a38 ?l38 ?c38 ?k38 ?a39 ?l39 ?c39 ?k39 ?z_isinstance ?z_len ?z_all ?z_any ?z_tuple ?z_int ?z_bool ?z_list ?z_range ?z_enumerate ?z_sorted ?z_sum ?z_set ?z_zip ?z_max ?z_min ?z_str ?z_abs ?v_MOST_CELLS ?v_MOST_SLOTS ?np0 ?xd_hr ?xd_cr ?xd_ch ?xd_vr ?xd_vh ?xd_vc ?xd_mr ?xd_mh ?xd_mc ?xd_mv
    (case gX0 => k_is); (case xX0 => k_exc); (case kX0 => k_is); (case eX0 => k_is); (case tX0 => k_is); (case isX0 => k_is); (case sfX0 => first | rfl | k_is)
    (case gX1 => k_is); (case xX1 => k_exc); (case kX1 => k_is); (case eX1 => k_is); (case tX1 => k_is); (case isX1 => k_is); (case sfX1 => first | rfl | k_is)
    (case gX2 => k_is); (case xX2 => k_exc); (case kX2 => k_is); (case eX2 => k_is); (case tX2 => k_is); (case isX2 => k_is); (case sfX2 => first | rfl | k_is)
    (case gX3 => k_is); (case xX3 => k_exc); (case kX3 => k_is); (case eX3 => k_is); (case tX3 => k_is); (case isX3 => k_is); (case sfX3 => first | rfl | k_is)
    (case gX4 => k_is); (case xX4 => k_exc); (case kX4 => k_is); (case eX4 => k_is); (case tX4 => k_is); (case isX4 => k_is); (case sfX4 => first | rfl | k_is)
    (case gC => k_is); (case pgC => k_is); (case hdC => k_is); (case poC => k_is); (case saC => k_is); (case mkC => k_is); (case kpC => k_is); (case nC__arena => k_is); (case nC__table => k_is); (case nC__end => k_is)
    (case aC_init => k_is); (case lC_init => k_is); (case cC_init => k_is); (case kC_init => k_is); (case iC_init => k_is)
    (case aC_cells => k_is); (case lC_cells => k_is); (case cC_cells => k_is); (case kC_cells => k_is); (case iC_cells => k_is)
    (case aC_slots => k_is); (case lC_slots => k_is); (case cC_slots => k_is); (case kC_slots => k_is); (case iC_slots => k_is)
    (case aC_end => k_is); (case lC_end => k_is); (case cC_end => k_is); (case kC_end => k_is); (case iC_end => k_is)
    (case aC_live => k_is); (case lC_live => k_is); (case cC_live => k_is); (case kC_live => k_is); (case iC_live => k_is)
    (case aC_entry_at => k_is); (case lC_entry_at => k_is); (case cC_entry_at => k_is); (case kC_entry_at => k_is); (case iC_entry_at => k_is)
    (case aC_entry => k_is); (case lC_entry => k_is); (case cC_entry => k_is); (case kC_entry => k_is); (case iC_entry => k_is)
    (case aC_is_live => k_is); (case lC_is_live => k_is); (case cC_is_live => k_is); (case kC_is_live => k_is); (case iC_is_live => k_is)
    (case aC_fits => k_is); (case lC_fits => k_is); (case cC_fits => k_is); (case kC_fits => k_is); (case iC_fits => k_is)
    (case aC_reserve => k_is); (case lC_reserve => k_is); (case cC_reserve => k_is); (case kC_reserve => k_is); (case iC_reserve => k_is)
    (case aC_spot => k_is); (case lC_spot => k_is); (case cC_spot => k_is); (case kC_spot => k_is); (case iC_spot => k_is)
    (case aC_fill => k_is); (case lC_fill => k_is); (case cC_fill => k_is); (case kC_fill => k_is); (case iC_fill => k_is)
    (case aC_read => k_is); (case lC_read => k_is); (case cC_read => k_is); (case kC_read => k_is); (case iC_read => k_is)
    (case aC_write => k_is); (case lC_write => k_is); (case cC_write => k_is); (case kC_write => k_is); (case iC_write => k_is)
    (case aC_free => k_is); (case lC_free => k_is); (case cC_free => k_is); (case kC_free => k_is); (case iC_free => k_is)
    (case aC_place => k_is); (case lC_place => k_is); (case cC_place => k_is); (case kC_place => k_is); (case iC_place => k_is)
    (case aC_moving => k_is); (case lC_moving => k_is); (case cC_moving => k_is); (case kC_moving => k_is); (case iC_moving => k_is)
    (case aC_begin_move => k_is); (case lC_begin_move => k_is); (case cC_begin_move => k_is); (case kC_begin_move => k_is); (case iC_begin_move => k_is)
    (case aC_copy_cell => k_is); (case lC_copy_cell => k_is); (case cC_copy_cell => k_is); (case kC_copy_cell => k_is); (case iC_copy_cell => k_is)
    (case aC_turn => k_is); (case lC_turn => k_is); (case cC_turn => k_is); (case kC_turn => k_is); (case iC_turn => k_is)
    (case aC_settle => k_is); (case lC_settle => k_is); (case cC_settle => k_is); (case kC_settle => k_is); (case iC_settle => k_is)
    (case aC_state => k_is); (case lC_state => k_is); (case cC_state => k_is); (case kC_state => k_is); (case iC_state => k_is)
    (case aC_take => k_is); (case lC_take => k_is); (case cC_take => k_is); (case kC_take => k_is); (case iC_take => k_is)
    (case gE => k_is); (case pgE => k_is); (case hdE => k_is); (case poE => k_is); (case saE => k_is); (case mkE => k_is); (case kpE => k_is); (case nE_stamp => k_is); (case nE_live => k_is); (case nE_size => k_is); (case nE_start => k_is); (case nE_filled => k_is); (case nE_to => k_is); (case nE_done => k_is); (case nE_mark => k_is); (case nE_black => k_is)
    (case aE_init => k_is); (case lE_init => k_is); (case cE_init => k_is); (case kE_init => k_is); (case iE_init => k_is)
    (case aE_row => k_is); (case lE_row => k_is); (case cE_row => k_is); (case kE_row => k_is); (case iE_row => k_is)
    (case aE_high => k_is); (case lE_high => k_is); (case cE_high => k_is); (case kE_high => k_is); (case iE_high => k_is)
    (case a1 => k_is); (case l1 => k_is); (case c1 => k_is); (case k1 => k_is)
    (case a2 => k_is); (case l2 => k_is); (case c2 => k_is); (case k2 => k_is)
    (case a3 => k_is); (case l3 => k_is); (case c3 => k_is); (case k3 => k_is)
    (case a4 => k_is); (case l4 => k_is); (case c4 => k_is); (case k4 => k_is)
    (case a5 => k_is); (case l5 => k_is); (case c5 => k_is); (case k5 => k_is)
    (case a6 => k_is); (case l6 => k_is); (case c6 => k_is); (case k6 => k_is)
    (case a7 => k_is); (case l7 => k_is); (case c7 => k_is); (case k7 => k_is)
    (case a8 => k_is); (case l8 => k_is); (case c8 => k_is); (case k8 => k_is)
    (case a9 => k_is); (case l9 => k_is); (case c9 => k_is); (case k9 => k_is)
    (case a10 => k_is); (case l10 => k_is); (case c10 => k_is); (case k10 => k_is)
    (case a11 => k_is); (case l11 => k_is); (case c11 => k_is); (case k11 => k_is)
    (case a12 => k_is); (case l12 => k_is); (case c12 => k_is); (case k12 => k_is)
    (case a13 => k_is); (case l13 => k_is); (case c13 => k_is); (case k13 => k_is)
    (case a14 => k_is); (case l14 => k_is); (case c14 => k_is); (case k14 => k_is)
    (case a15 => k_is); (case l15 => k_is); (case c15 => k_is); (case k15 => k_is)
    (case a16 => k_is); (case l16 => k_is); (case c16 => k_is); (case k16 => k_is)
    (case a17 => k_is); (case l17 => k_is); (case c17 => k_is); (case k17 => k_is)
    (case a18 => k_is); (case l18 => k_is); (case c18 => k_is); (case k18 => k_is)
    (case a19 => k_is); (case l19 => k_is); (case c19 => k_is); (case k19 => k_is)
    (case a20 => k_is); (case l20 => k_is); (case c20 => k_is); (case k20 => k_is)
    (case a21 => k_is); (case l21 => k_is); (case c21 => k_is); (case k21 => k_is)
    (case a22 => k_is); (case l22 => k_is); (case c22 => k_is); (case k22 => k_is)
    (case a23 => k_is); (case l23 => k_is); (case c23 => k_is); (case k23 => k_is)
    (case a24 => k_is); (case l24 => k_is); (case c24 => k_is); (case k24 => k_is)
    (case a25 => k_is); (case l25 => k_is); (case c25 => k_is); (case k25 => k_is)
    (case a26 => k_is); (case l26 => k_is); (case c26 => k_is); (case k26 => k_is)
    (case a27 => k_is); (case l27 => k_is); (case c27 => k_is); (case k27 => k_is)
    (case a28 => k_is); (case l28 => k_is); (case c28 => k_is); (case k28 => k_is)
    (case a29 => k_is); (case l29 => k_is); (case c29 => k_is); (case k29 => k_is)
    (case a30 => k_is); (case l30 => k_is); (case c30 => k_is); (case k30 => k_is)
    (case a31 => k_is); (case l31 => k_is); (case c31 => k_is); (case k31 => k_is)
    (case a32 => k_is); (case l32 => k_is); (case c32 => k_is); (case k32 => k_is)
    (case a33 => k_is); (case l33 => k_is); (case c33 => k_is); (case k33 => k_is)
    (case a34 => k_is); (case l34 => k_is); (case c34 => k_is); (case k34 => k_is)
    (case a35 => k_is); (case l35 => k_is); (case c35 => k_is); (case k35 => k_is)
    (case a36 => k_is); (case l36 => k_is); (case c36 => k_is); (case k36 => k_is)
    (case a37 => k_is); (case l37 => k_is); (case c37 => k_is); (case k37 => k_is)
    (case a38 => k_is); (case l38 => k_is); (case c38 => k_is); (case k38 => k_is)
    (case a39 => k_is); (case l39 => k_is); (case c39 => k_is); (case k39 => k_is)
    (case z_isinstance => k_is); (case z_len => k_is); (case z_all => k_is); (case z_any => k_is); (case z_tuple => k_is); (case z_int => k_is); (case z_bool => k_is); (case z_list => k_is); (case z_range => k_is); (case z_enumerate => k_is); (case z_sorted => k_is); (case z_sum => k_is); (case z_set => k_is); (case z_zip => k_is); (case z_max => k_is); (case z_min => k_is); (case z_str => k_is); (case z_abs => k_is)
    (case v_MOST_CELLS => k_is); (case v_MOST_SLOTS => k_is)
    (case np0 => first | rfl | k_is | decide +kernel)
    (case xd_hr => first | rfl | k_is | decide +kernel)
    (case xd_cr => first | rfl | k_is | decide +kernel)
    (case xd_ch => first | rfl | k_is | decide +kernel)
    (case xd_vr => first | rfl | k_is | decide +kernel)
    (case xd_vh => first | rfl | k_is | decide +kernel)
    (case xd_vc => first | rfl | k_is | decide +kernel)
    (case xd_mr => first | rfl | k_is | decide +kernel)
    (case xd_mh => first | rfl | k_is | decide +kernel)
    (case xd_mc => first | rfl | k_is | decide +kernel)
    (case xd_mv => first | rfl | k_is | decide +kernel)

import PyProof.Rows.All
import Wide.All
import OpenK.AllK
import Wide.FinOn
import HandS.ForMost
import HandS.Evl
import HandS.Zip
import HandS.TupAny
import HandS.IsInst
import HandS.Property
import HandS.ClsMeth
import HandS.Star
import HandS.FStr
import HandS.SetFor
import HandS.Conv
import HandS.Walk
import HandS.Wide
import HandS.Sort
import HandS.SortOrd
import KE.GoesEnum
import KE.GoesZip
import KE.GoesMore
import KE.SortKeyHeap
import HandS.SortKw
import HandS.SlotsOwn
import HandS.Strs
import KE.DatumOrd
import HandS.Text
import HandS.Words
import HandS.Defaults
import Open.Row
import KE.KStateDown
import Lean
import HandS.Ends
import HandS.Head0
import HandS.Head1
import HandS.Head2
import HandS.HeadEnd
import HandS.HeadHook1
import HandS.HeadHook2
import HandS.HeadNt
import HandS.Style
import PySem.Challenge.RW_onewaycuts_k44_whole_halves_and_apart
set_option Elab.async false
set_option linter.all false
set_option maxRecDepth 100000
set_option maxHeartbeats 4000000
-- OwL1
/-! The layer 1: a value of the heap stands for a datum; what a reading evaluates to. -/
namespace Ow
open PySem L2 Evl

/-! ### a value stands for a datum -/
structure Rl (α : Type) where
  r : Hp → V → α → Prop
  up : ∀ {H H' : Hp} {v : V} {a : α}, Ex H H' → r H v a → r H' v a
/-- all tuples stay -/
def Tx (H H' : Hp) : Prop := ∀ a xs, H a = some (.tup xs) → H' a = some (.tup xs)
theorem Tx.of {H H' : Hp} (e : Ex H H') : Tx H H' := fun _ _ h => e _ _ h
theorem Tx.trans {H H1 H2 : Hp} (a : Tx H H1) (b : Tx H1 H2) : Tx H H2 := fun x xs h => b x xs (a x xs h)
theorem Tx.refl (H : Hp) : Tx H H := fun _ _ h => h
theorem Tx.upd {H : Hp} {p : Addr} {xs : List V} {o : HO} (h : H p = some (.lst xs)) : Tx H (upd H p o) := fun a ys q => by
  have ne : a ≠ p := fun e => by
    rw [e, h] at q
    cases q
  rw [upd_ne ne]
  exact q
/-- data without lists and objects: it stays as long as the tuples stay -/
def Im {α : Type} (e : Rl α) : Prop := ∀ {H H' : Hp} {v : V} {a : α}, Tx H H' → e.r H v a → e.r H' v a

def dN : Rl Unit := ⟨fun _ v _ => v = .non, fun _ h => h⟩
def dB : Rl Bool := ⟨fun _ v b => v = .bl b, fun _ h => h⟩
def dI : Rl Int := ⟨fun _ v i => v = .int i, fun _ h => h⟩
def dS : Rl Str := ⟨fun _ v z => v = .str z, fun _ h => h⟩
abbrev lim : Nat := 4000
section
variable {α β : Type}
abbrev AllR (e : Rl α) (H : Hp) (xs : List V) (l : List α) : Prop := Paired (e.r H) xs l
theorem AllR.up {e : Rl α} {H H' : Hp} {xs : List V} {l : List α} (x : Ex H H') (h : AllR e H xs l) : AllR e H' xs l := Paired.mapP h fun _ _ z => e.up x z
theorem AllR.im {e : Rl α} {H H' : Hp} {xs : List V} {l : List α} (i : Im e) (x : Tx H H') (h : AllR e H xs l) : AllR e H' xs l := Paired.mapP h fun _ _ z => i x z
def dT (e : Rl α) : Rl (List α) := ⟨fun H v l => ∃ p xs, v = .ref p ∧ H p = some (.tup xs) ∧ AllR e H xs l ∧ l.length ≤ lim, fun x ⟨p, xs, a, b, c, d⟩ => ⟨p, xs, a, x _ _ b, AllR.up x c, d⟩⟩
def dL (e : Rl α) : Rl (List α) := ⟨fun H v l => ∃ p xs, v = .ref p ∧ H p = some (.lst xs) ∧ AllR e H xs l ∧ l.length ≤ lim, fun x ⟨p, xs, a, b, c, d⟩ => ⟨p, xs, a, x _ _ b, AllR.up x c, d⟩⟩
def dP (e : Rl α) (f : Rl β) : Rl (α × β) := ⟨fun H v l => ∃ p x y, v = .ref p ∧ H p = some (.tup [x, y]) ∧ e.r H x l.1 ∧ f.r H y l.2, fun x ⟨p, a, b, h, c, d, g⟩ => ⟨p, a, b, h, x _ _ c, e.up x d, f.up x g⟩⟩
theorem im_N : Im dN := fun _ h => h
theorem im_B : Im dB := fun _ h => h
theorem im_I : Im dI := fun _ h => h
theorem im_S : Im dS := fun _ h => h
theorem im_T {e : Rl α} (i : Im e) : Im (dT e) := fun x ⟨p, xs, a, b, c, d⟩ => ⟨p, xs, a, x _ _ b, AllR.im i x c, d⟩
theorem im_P {e : Rl α} {f : Rl β} (i : Im e) (j : Im f) : Im (dP e f) := fun x ⟨p, a, b, h, c, d, g⟩ => ⟨p, a, b, h, x _ _ c, i x d, j x g⟩

theorem pd_app {F : α → β → Prop} {a b : List α} {c d : List β} (h : Paired F a c) (k : Paired F b d) : Paired F (a ++ b) (c ++ d) := by
  induction h with
  | nil => exact k
  | cons x _ ih => exact .cons x ih
theorem pd_get {F : α → β → Prop} {a : List α} {c : List β} (h : Paired F a c) : ∀ {i : Nat} {x : α}, a[i]? = some x → ∃ y, c[i]? = some y ∧ F x y := by
  induction h with
  | nil =>
    intro i x e
    simp at e
  | cons x _ ih =>
    intro i z e
    cases i with
    | zero =>
      have e := Option.some.inj e
      subst e
      exact ⟨_, rfl, x⟩
    | succ i => exact ih (i := i) e
theorem pd_get' {F : α → β → Prop} {a : List α} {c : List β} (h : Paired F a c) : ∀ {i : Nat} {y : β}, c[i]? = some y → ∃ x, a[i]? = some x ∧ F x y := by
  induction h with
  | nil =>
    intro i x e
    simp at e
  | cons x _ ih =>
    intro i z e
    cases i with
    | zero =>
      have e := Option.some.inj e
      subst e
      exact ⟨_, rfl, x⟩
    | succ i => exact ih (i := i) e
theorem pd_set {F : α → β → Prop} {a : List α} {c : List β} (h : Paired F a c) {x : α} {y : β} (k : F x y) : ∀ i : Nat, Paired F (a.set i x) (c.set i y) := by
  induction h with
  | nil => intro i; exact .nil
  | cons z t ih =>
    intro i
    cases i with
    | zero => exact .cons k t
    | succ i => exact .cons z (ih i)
theorem pd_take {F : α → β → Prop} {a : List α} {c : List β} (h : Paired F a c) : ∀ n : Nat, Paired F (a.take n) (c.take n) := by
  induction h with
  | nil =>
    intro n
    rw [List.take_nil, List.take_nil]
    exact .nil
  | cons z t ih =>
    intro n
    cases n with
    | zero => exact .nil
    | succ n => exact .cons z (ih n)
theorem pd_drop {F : α → β → Prop} {a : List α} {c : List β} (h : Paired F a c) : ∀ n : Nat, Paired F (a.drop n) (c.drop n) := by
  induction h with
  | nil =>
    intro n
    rw [List.drop_nil, List.drop_nil]
    exact .nil
  | cons z t ih =>
    intro n
    cases n with
    | zero => exact .cons z t
    | succ n => exact ih n
theorem pd_erase {F : α → β → Prop} {a : List α} {c : List β} (h : Paired F a c) : ∀ n : Nat, Paired F (a.eraseIdx n) (c.eraseIdx n) := by
  induction h with
  | nil => intro n; exact .nil
  | cons z t ih =>
    intro n
    cases n with
    | zero => exact t
    | succ n => exact .cons z (ih n)
theorem allI {H : Hp} {xs : List V} {l : List Int} (h : AllR dI H xs l) : xs = l.map V.int := by
  induction h with
  | nil => rfl
  | cons x _ ih =>
    have x := x
    rw [List.map_cons, ← ih]
    exact congrArg (· :: _) x
theorem allI' (H : Hp) : ∀ l : List Int, AllR dI H (l.map V.int) l
  | [] => .nil
  | _ :: l => .cons rfl (allI' H l)
theorem allB {H : Hp} {xs : List V} {l : List Bool} (h : AllR dB H xs l) : xs = l.map V.bl := by
  induction h with
  | nil => rfl
  | cons x _ ih =>
    have x := x
    rw [List.map_cons, ← ih]
    exact congrArg (· :: _) x
theorem allS {H : Hp} {xs : List V} {l : List Str} (h : AllR dS H xs l) : xs = l.map V.str := by
  induction h with
  | nil => rfl
  | cons x _ ih =>
    have x := x
    rw [List.map_cons, ← ih]
    exact congrArg (· :: _) x
theorem allS' (H : Hp) : ∀ l : List Str, AllR dS H (l.map V.str) l
  | [] => .nil
  | _ :: l => .cons rfl (allS' H l)
end

/-! ### what a reading evaluates to -/
section
variable {α β γ : Type}
def EvP (b : Rl β) (te : TE) (σ : L2.St) (H : Hp) (P : β → Prop) : Prop := ∀ H1, Ex H H1 → ∀ Q : VK, (∀ w H2 y, Ex H1 H2 → b.r H2 w y → P y → Q w H2) → te σ H1 Q
/-- it evaluates to y -/
def EvV (b : Rl β) (te : TE) (σ : L2.St) (H : Hp) (y : β) : Prop := ∀ H1, Ex H H1 → ∀ Q : VK, (∀ w H2, Ex H1 H2 → b.r H2 w y → Q w H2) → te σ H1 Q
variable {K : PySem.W.Frag} {σ : L2.St} {H H' : Hp} {te ta tb tc : TE} {t u : TT} {e : Rl α} {f : Rl β} {g : Rl γ}
theorem EvP.mono {P : β → Prop} (x : Ex H H') (h : EvP f te σ H P) : EvP f te σ H' P := fun H1 a Q q => h H1 (x.trans a) Q q
theorem EvV.mono {y : β} (x : Ex H H') (h : EvV f te σ H y) : EvV f te σ H' y := fun H1 a Q q => h H1 (x.trans a) Q q
theorem EvV.p {y : β} {P : β → Prop} (h : EvV f te σ H y) (hp : P y) : EvP f te σ H P := fun H1 a Q q => h H1 a Q fun w H2 x r => q w H2 y x r hp
theorem EvP.imp {P P' : β → Prop} (h : EvP f te σ H P) (hp : ∀ y, P y → P' y) : EvP f te σ H P' := fun H1 a Q q => h H1 a Q fun w H2 y x r p => q w H2 y x r (hp y p)
theorem EvP.v {P : β → Prop} {y : β} (h : EvP f te σ H P) (hp : ∀ z, P z → z = y) : EvV f te σ H y := fun H1 a Q q => h H1 a Q fun w H2 z x r p => q w H2 x (hp z p ▸ r)
theorem EvV.is {y z : β} (h : EvV f te σ H y) (e : y = z) : EvV f te σ H z := e ▸ h

theorem v_var {i : Nat} {v : V} {a : α} (h : σ[i]? = some (some v)) (r : e.r H v a) : EvV e (tVar i) σ H a := fun H1 x Q q => ⟨v, h, q v H1 (Ex.refl H1) (e.up x r)⟩
theorem v_int {i : Int} : EvV dI (tC (.int i)) σ H i := fun H1 _ Q q => q _ H1 (Ex.refl H1) rfl
theorem v_str {z : Str} : EvV dS (tC (.str z)) σ H z := fun H1 _ Q q => q _ H1 (Ex.refl H1) rfl
theorem v_bl {b : Bool} : EvV dB (tC (.bl b)) σ H b := fun H1 _ Q q => q _ H1 (Ex.refl H1) rfl
theorem v_non : EvV dN (tC .non) σ H () := fun H1 _ Q q => q _ H1 (Ex.refl H1) rfl
/-- two operands, an operation on values -/
theorem v_op {r : R2} {a : α} {b : β} {c : γ} (ha : EvV e ta σ H a) (hb : EvV f tb σ H b)
    (hr : ∀ H2 v w, Ex H H2 → e.r H2 v a → f.r H2 w b → ∀ Q : VK, (∀ z H3, Ex H2 H3 → g.r H3 z c → Q z H3) → r v w H2 Q) : EvV g (tOp r ta tb) σ H c := fun H1 x Q q =>
  ha H1 x _ fun v H2 x2 r1 => hb H2 (x.trans x2) _ fun w H3 x3 r2 => hr H3 v w ((x.trans x2).trans x3) (e.up x3 r1) r2 Q fun z H4 x4 r3 => q z H4 ((x2.trans x3).trans x4) r3
theorem v_opP {r : R2} {A : α → Prop} {B : β → Prop} {C : γ → Prop} (ha : EvP e ta σ H A) (hb : EvP f tb σ H B)
    (hr : ∀ H2 v w a b, Ex H H2 → e.r H2 v a → f.r H2 w b → A a → B b → ∀ Q : VK, (∀ z H3 c, Ex H2 H3 → g.r H3 z c → C c → Q z H3) → r v w H2 Q) : EvP g (tOp r ta tb) σ H C := fun H1 x Q q =>
  ha H1 x _ fun v H2 a x2 r1 pa => hb H2 (x.trans x2) _ fun w H3 b x3 r2 pb => hr H3 v w a b ((x.trans x2).trans x3) (e.up x3 r1) r2 pa pb Q fun z H4 c x4 r3 pc => q z H4 c ((x2.trans x3).trans x4) r3 pc
theorem v_I0 {gg : Int → Int → Int} {i j : Int} (ha : EvV dI ta σ H i) (hb : EvV dI tb σ H j) : EvV dI (tOp (rI0 fun i j => .int (gg i j)) ta tb) σ H (gg i j) :=
  v_op ha hb fun H2 v w _ r1 r2 Q q => ⟨i, j, r1, r2, q _ H2 (Ex.refl H2) rfl⟩
theorem v_IC {C : Int → Int → Prop} {gg : Int → Int → Int} {i j : Int} (ha : EvV dI ta σ H i) (hb : EvV dI tb σ H j) (hc : C i j) : EvV dI (tOp (rI C fun i j => .int (gg i j)) ta tb) σ H (gg i j) :=
  v_op ha hb fun H2 v w _ r1 r2 Q q => ⟨i, j, r1, r2, hc, q _ H2 (Ex.refl H2) rfl⟩
theorem v_IB {gg : Int → Int → Bool} {i j : Int} (ha : EvV dI ta σ H i) (hb : EvV dI tb σ H j) : EvV dB (tOp (rI0 fun i j => .bl (gg i j)) ta tb) σ H (gg i j) :=
  v_op ha hb fun H2 v w _ r1 r2 Q q => ⟨i, j, r1, r2, q _ H2 (Ex.refl H2) rfl⟩

/-! ### tests -/
theorem t_test {b : Bool} (h : EvV dB te σ H b) : EvT (tTest te) σ H b := fun H1 x Q q => h H1 x _ fun w H2 x2 r => ⟨b, r, q H2 x2⟩
theorem t_B {b : Bool} (h : EvV dB te σ H b) : EvT (tB te) σ H b := fun H1 x Q q => h H1 x _ fun w H2 x2 r => ⟨b, r, q H2 x2⟩
theorem v_and {a b : Bool} (h1 : EvV dB ta σ H a) (h2 : a = true → EvV dB tb σ H b) : EvV dB (tAndV ta tb) σ H (a && b) := fun H1 x Q q => h1 H1 x _ fun w H2 x2 r => ⟨a, r, by
  cases a with
  | true =>
    show tb σ H2 Q
    exact h2 rfl H2 (x.trans x2) Q fun w H3 x3 r => q w H3 (x2.trans x3) r
  | false =>
    show Q (.bl false) H2
    exact q _ H2 x2 rfl⟩
theorem v_or {a b : Bool} (h1 : EvV dB ta σ H a) (h2 : a = false → EvV dB tb σ H b) : EvV dB (tOrV ta tb) σ H (a || b) := fun H1 x Q q => h1 H1 x _ fun w H2 x2 r => ⟨a, r, by
  cases a with
  | true =>
    show Q (.bl true) H2
    exact q _ H2 x2 rfl
  | false =>
    show tb σ H2 Q
    exact h2 rfl H2 (x.trans x2) Q fun w H3 x3 r => q w H3 (x2.trans x3) r⟩
theorem v_not {a : Bool} (h1 : EvV dB ta σ H a) : EvV dB (tNotV ta) σ H (!a) := fun H1 x Q q => h1 H1 x _ fun w H2 x2 r => ⟨a, r, q _ H2 x2 rfl⟩
theorem v_if {b : Bool} {y : β} (h : EvT t σ H b) (h1 : b = true → EvV f ta σ H y) (h2 : b = false → EvV f tb σ H y) : EvV f (tIf t ta tb) σ H y := fun H1 x Q q => h H1 x _ fun H2 x2 => by
  cases b with
  | true =>
    show ta σ H2 Q
    exact h1 rfl H2 (x.trans x2) Q fun w H3 x3 r => q w H3 (x2.trans x3) r
  | false =>
    show tb σ H2 Q
    exact h2 rfl H2 (x.trans x2) Q fun w H3 x3 r => q w H3 (x2.trans x3) r
/-- a <= b <= c on ints -/
theorem v_chain {p p' : Int → Int → Bool} {i j k : Int} (ha : EvV dI ta σ H i) (hb : EvV dI tb σ H j) (hc : EvV dI tc σ H k) : EvV dB (tChain (rI0 fun i j => .bl (p i j)) (rI0 fun i j => .bl (p' i j)) ta tb tc) σ H (p i j && p' j k) := fun H1 x Q q =>
  ha H1 x _ fun v H2 x2 r1 => hb H2 (x.trans x2) _ fun w H3 x3 r2 => ⟨i, j, r1, r2, p i j, rfl, by
    cases hp : p i j with
    | true =>
      show tc σ H3 _
      refine hc H3 ((x.trans x2).trans x3) _ fun z H4 x4 r3 => ⟨j, k, r2, r3, q _ H4 ((x2.trans x3).trans x4) ?_⟩
      show V.bl (p' j k) = V.bl (p i j && p' j k)
      rw [hp, Bool.true_and]
    | false =>
      show Q (.bl false) H3
      refine q _ H3 (x2.trans x3) ?_
      show V.bl false = V.bl (p i j && p' j k)
      rw [hp, Bool.false_and]⟩

/-! ### displays -/
def EvA' (ta : TA) (σ : L2.St) (H : Hp) (P : Hp → List V → Prop) : Prop := ∀ H1, Ex H H1 → ∀ Q : List V → Hp → Prop, (∀ vs H2, Ex H1 H2 → P H2 vs → Q vs H2) → ta σ H1 Q
/-- arguments that stand for data -/
inductive Args : List (Hp → V → Prop) → Hp → List V → Prop
  | nil {H : Hp} : Args [] H []
  | cons {P : Hp → V → Prop} {Ps : List (Hp → V → Prop)} {H : Hp} {v : V} {vs : List V} : P H v → Args Ps H vs → Args (P :: Ps) H (v :: vs)
theorem a_nil : EvA' tNil σ H (Args []) := fun H1 _ Q q => q _ H1 (Ex.refl H1) .nil
theorem a_cons {tr : TA} {a : α} {Ps : List (Hp → V → Prop)} (h : EvV e te σ H a) (hr : EvA' tr σ H (Args Ps)) : EvA' (tCons te tr) σ H (Args ((fun H v => e.r H v a) :: Ps)) := fun H1 x Q q =>
  h H1 x _ fun v H2 x2 r1 => hr H2 (x.trans x2) _ fun vs H3 x3 r2 => q _ H3 (x2.trans x3) (.cons (e.up x3 r1) r2)
theorem a_consP {tr : TA} {A : α → Prop} {Ps : List (Hp → V → Prop)} (h : EvP e te σ H A) (hr : EvA' tr σ H (Args Ps)) : EvA' (tCons te tr) σ H (Args ((fun H v => ∃ a, e.r H v a ∧ A a) :: Ps)) := fun H1 x Q q =>
  h H1 x _ fun v H2 a x2 r1 pa => hr H2 (x.trans x2) _ fun vs H3 x3 r2 => q _ H3 (x2.trans x3) (.cons ⟨a, e.up x3 r1, pa⟩ r2)
theorem v_pair {a : α} {b : β} (ha : EvV e ta σ H a) (hb : EvV f tb σ H b) : EvV (dP e f) (tTup (tCons ta (tCons tb tNil))) σ H (a, b) := fun H1 x Q q =>
  ha H1 x _ fun v H2 x2 r1 => hb H2 (x.trans x2) _ fun w H3 x3 r2 => ⟨by show 2 ≤ sizeLine; decide, fun p hp => q _ _ ((x2.trans x3).trans (Ex.new hp)) ⟨p, v, w, rfl, upd_same, e.up (x3.trans (Ex.new hp)) r1, f.up (Ex.new hp) r2⟩⟩
theorem v_tup0 : EvV (dT e) (tTup tNil) σ H [] := fun H1 x Q q => ⟨Nat.zero_le _, fun p hp => q _ _ (Ex.new hp) ⟨p, [], rfl, upd_same, .nil, Nat.zero_le _⟩⟩
theorem v_tup1 {a : α} (ha : EvV e ta σ H a) : EvV (dT e) (tTup (tCons ta tNil)) σ H [a] := fun H1 x Q q =>
  ha H1 x _ fun v H2 x2 r1 => ⟨by show 1 ≤ sizeLine; decide, fun p hp => q _ _ (x2.trans (Ex.new hp)) ⟨p, [v], rfl, upd_same, .cons (e.up (Ex.new hp) r1) .nil, by show 1 ≤ lim; decide⟩⟩
theorem v_tup2 {a b : α} (ha : EvV e ta σ H a) (hb : EvV e tb σ H b) : EvV (dT e) (tTup (tCons ta (tCons tb tNil))) σ H [a, b] := fun H1 x Q q =>
  ha H1 x _ fun v H2 x2 r1 => hb H2 (x.trans x2) _ fun w H3 x3 r2 => ⟨by show 2 ≤ sizeLine; decide, fun p hp => q _ _ ((x2.trans x3).trans (Ex.new hp)) ⟨p, [v, w], rfl, upd_same, .cons (e.up (x3.trans (Ex.new hp)) r1) (.cons (e.up (Ex.new hp) r2) .nil), by show 2 ≤ lim; decide⟩⟩
theorem v_lst0 : EvV (dL e) (tLst tNil) σ H [] := fun H1 x Q q => ⟨Nat.zero_le _, fun p hp => q _ _ (Ex.new hp) ⟨p, [], rfl, upd_same, .nil, Nat.zero_le _⟩⟩
theorem v_lst1 {a : α} (ha : EvV e ta σ H a) : EvV (dL e) (tLst (tCons ta tNil)) σ H [a] := fun H1 x Q q =>
  ha H1 x _ fun v H2 x2 r1 => ⟨by show 1 ≤ sizeLine; decide, fun p hp => q _ _ (x2.trans (Ex.new hp)) ⟨p, [v], rfl, upd_same, .cons (e.up (Ex.new hp) r1) .nil, by show 1 ≤ lim; decide⟩⟩

/-! ### what is walked -/
def Wk (e : Rl α) (J : It) (l : List α) (H : Hp) : Prop := ∀ H', Ex H H' → (∀ i, i < l.length → J.go i H') ∧ J.stop l.length H' ∧ ∀ i x H'', i < l.length → J.yld i H' x H'' → Ex H' H'' ∧ ∃ a, l[i]? = some a ∧ e.r H'' x a
def Src (e : Rl α) (wi : TI) (σ : L2.St) (H : Hp) (l : List α) : Prop := ∀ H1, Ex H H1 → ∀ R : It → Hp → Prop, (∀ J H2, Ex H1 H2 → Wk e J l H2 → R J H2) → wi σ H1 R
theorem wk_list {p : Addr} {xs : List V} {l : List α} (hq : SqL K H p xs) (ha : AllR e H xs l) : Wk e (Itl K p) l H := fun H' x => by
  have w := walk_list (K := K) (a := p) (xs := xs)
  have el : l.length = xs.length := (Paired.length ha).symm
  refine ⟨fun i hi => w.goes i H' (by omega) (ex_l x hq), by rw [el]; exact w.stops H' (ex_l x hq), fun i y H'' hi yl => ?_⟩
  obtain ⟨h1, h2⟩ := w.yields i H' y H'' (by omega) (ex_l x hq) yl
  subst h1
  obtain ⟨a, h3, h4⟩ := pd_get ha h2
  exact ⟨Ex.refl _, a, h3, e.up x h4⟩
theorem wk_tup {p : Addr} {xs : List V} {l : List α} (hq : SqT K H p xs) (ha : AllR e H xs l) : Wk e (Itt K p) l H := fun H' x => by
  have w := walk_tup (K := K) (a := p) (xs := xs)
  have el : l.length = xs.length := (Paired.length ha).symm
  refine ⟨fun i hi => w.goes i H' (by omega) (ex_t x hq), by rw [el]; exact w.stops H' (ex_t x hq), fun i y H'' hi yl => ?_⟩
  obtain ⟨h1, h2⟩ := w.yields i H' y H'' (by omega) (ex_t x hq) yl
  subst h1
  obtain ⟨a, h3, h4⟩ := pd_get ha h2
  exact ⟨Ex.refl _, a, h3, e.up x h4⟩
theorem s_list {l : List α} (h : EvV (dL e) te σ H l) : Src e (iList K te) σ H l := fun H1 x R q => h H1 x _ fun v H2 x2 ⟨p, xs, e1, hq, ha, _⟩ => ⟨p, e1, ⟨xs, sq_of hq⟩, q _ H2 x2 (wk_list (K := K) (sq_of hq) ha)⟩
theorem s_tup {l : List α} (h : EvV (dT e) te σ H l) : Src e (iTup K te) σ H l := fun H1 x R q => h H1 x _ fun v H2 x2 ⟨p, xs, e1, hq, ha, _⟩ => ⟨p, e1, ⟨xs, st_of hq⟩, q _ H2 x2 (wk_tup (K := K) (st_of hq) ha)⟩
/-- lo, lo + 1, .. -/
def upFrom (lo : Int) (n : Nat) : List Int := (List.range n).map fun i => lo + (i : Nat)
theorem upFrom_get {lo : Int} {n i : Nat} (h : i < n) : (upFrom lo n)[i]? = some (lo + (i : Nat)) := by
  unfold upFrom
  rw [List.getElem?_map, List.getElem?_range h]
  rfl
theorem upFrom_len (lo : Int) (n : Nat) : (upFrom lo n).length = n := by
  unfold upFrom
  rw [List.length_map, List.length_range]
theorem wk_range {lo : Int} {n : Nat} : Wk dI (Itr lo n) (upFrom lo n) H := fun H' x => by
  rw [upFrom_len]
  refine ⟨fun i hi => hi, Nat.le_refl _, fun i y H'' hi yl => ?_⟩
  obtain ⟨h1, h2⟩ := yl
  subst h1
  exact ⟨Ex.refl _, _, upFrom_get hi, h2⟩
theorem s_range1 {n : Int} (h : EvV dI te σ H n) (hn : n ≤ 100000) (h0 : -100000 ≤ n) : Src dI (iRng1 (tCons te tNil)) σ H (upFrom 0 n.toNat) := fun H1 x R q => h H1 x _ fun v H2 x2 r => ⟨n, by rw [show v = V.int n from r], by omega, by omega, q _ H2 x2 wk_range⟩
theorem s_range2 {a b : Int} (ha : EvV dI ta σ H a) (hb : EvV dI tb σ H b) (h1 : a ≤ 100000) (h2 : -100000 ≤ a) (h3 : b ≤ 100000) (h4 : -100000 ≤ b) : Src dI (iRng2 (tCons ta (tCons tb tNil))) σ H (upFrom a (b - a).toNat) := fun H1 x R q =>
  ha H1 x _ fun v H2 x2 r => hb H2 (x.trans x2) _ fun w H3 x3 r2 => ⟨a, b, by rw [show v = V.int a from r, show w = V.int b from r2], ⟨by omega, by omega, by omega, by omega⟩, q _ H3 (x2.trans x3) wk_range⟩

/-! ### comprehensions -/
/-- a target binds what stands for a: what follows holds of the slots behind it -/
def Bind (e : Rl α) (g : TG) (σ : L2.St) (S : α → Hp → L2.St → Prop) : Prop := ∀ v H a, e.r H v a → ∀ Q : L2.St → Hp → Prop, (∀ σ' H', Ex H H' → S a H' σ' → Q σ' H') → g v σ H Q
theorem b_name {j : Nat} : Bind e (gName j) σ (fun a H σ' => ∃ x, σ' = σ.set j (some x) ∧ e.r H x a) := fun v H a r Q q => q _ H (Ex.refl H) ⟨v, rfl, r⟩
theorem b_pair {i j : Nat} : Bind (dP e f) (gTup K 2 (gCons (gName i) (gCons (gName j) gNil))) σ (fun a H σ' => ∃ x y, σ' = (σ.set i (some x)).set j (some y) ∧ e.r H x a.1 ∧ f.r H y a.2) := fun v H a r Q q => by
  obtain ⟨p, x, y, e1, hq, h1, h2⟩ := r
  exact ⟨p, [x, y], e1, st_of hq, rfl, x, [y], rfl, y, [], rfl, rfl, q _ H (Ex.refl H) ⟨x, y, rfl, h1, h2⟩⟩
theorem v_lc {wi : TI} {tg : TG} {vs : List Nat} {l : List α} {S : α → Hp → L2.St → Prop} (F : α → Bool) (G : α → β) (im : Im f) (hs : Src e wi σ H l) (hl : l.length ≤ lim) (hb : Bind e tg (wipe σ vs) S)
    (hw : ∀ a H1 σ', S a H1 σ' → wipe σ' vs = wipe σ vs) (ht : ∀ a, a ∈ l → ∀ H1 σ', Ex H H1 → S a H1 σ' → EvT t σ' H1 (F a)) (he : ∀ a, a ∈ l → ∀ H1 H2 σ', Ex H H1 → S a H1 σ' → Ex H1 H2 → F a = true → EvV f te σ' H2 (G a)) :
    EvV (dL f) (tLc wi tg t te vs) σ H ((l.filter F).map G) := fun H0 x0 Q q => hs H0 x0 _ fun J H1 x1 wk D hD => by
  have hlen : ∀ i, ((l.take i).filter F).length ≤ l.length := fun i => Nat.le_trans (List.length_filter_le _ _) (by rw [List.length_take]; omega)
  refine ⟨fun i m H' => m = l.length - i ∧ i ≤ l.length ∧ Ex H1 H' ∧ ∃ xs, H' D = some (.lst xs) ∧ AllR f H' xs (((l.take i).filter F).map G), ⟨l.length, rfl, Nat.zero_le _, Ex.new hD, [], upd_same, by rw [List.take_zero]; exact .nil⟩, ?_⟩
  rintro i m H2 ⟨rfl, hi, x2, xs, hxs, ha⟩
  obtain ⟨w1, w2, w3⟩ := wk H2 x2
  by_cases lt : i < l.length
  · refine .inr ⟨w1 i lt, fun H' => Ex H1 H' ∧ ∃ xs, H' D = some (.lst xs) ∧ AllR f H' xs (((l.take (i + 1)).filter F).map G), fun H' hn => ⟨l.length - (i + 1), by omega, rfl, lt, hn⟩, fun y H3 yl => ?_⟩
    obtain ⟨x3, a, hai, hr⟩ := w3 i y H3 lt yl
    have hm : a ∈ l := List.mem_of_getElem? hai
    have et : l.take (i + 1) = l.take i ++ [a] := by
      rw [List.take_add_one, hai]
      rfl
    have x03 : Ex H H3 := ((x0.trans x1).trans x2).trans x3
    refine hb y H3 a hr _ fun σ' H4 x4 hS => ⟨hw a H4 σ' hS, ht a hm H4 σ' (x03.trans x4) hS H4 (Ex.refl H4) _ fun H5 x5 => ?_⟩
    have hD5 : H5 D = some (.lst xs) := x5 D _ (x4 D _ (x3 D _ hxs))
    cases hF : F a with
    | true =>
      show te σ' H5 _
      refine he a hm H4 H5 σ' (x03.trans x4) hS x5 hF H5 (Ex.refl H5) _ fun w H6 x6 r6 => ?_
      have hD6 : H6 D = some (.lst xs) := x6 D _ hD5
      have hxl : xs.length ≤ l.length := by
        rw [Paired.length ha, List.length_map]
        exact hlen i
      refine ⟨xs, hD6, Nat.lt_of_le_of_lt (Nat.le_trans hxl hl) (by decide), Ex.mut (((x2.trans x3).trans (x4.trans x5)).trans x6) hD, xs ++ [w], upd_same, ?_⟩
      rw [et, List.filter_append, List.map_append, List.filter_cons, if_pos hF]
      have tx : Tx H2 (upd H6 D (.lst (xs ++ [w]))) := (Tx.of ((x3.trans (x4.trans x5)).trans x6)).trans (Tx.upd hD6)
      exact pd_app (AllR.im im tx ha) (.cons (im (Tx.upd hD6) r6) .nil)
    | false =>
      show Ex H1 H5 ∧ _
      refine ⟨(x2.trans x3).trans (x4.trans x5), xs, hD5, ?_⟩
      rw [et, List.filter_append, List.filter_cons, if_neg (by rw [hF]; simp), List.filter_nil, List.append_nil]
      exact AllR.up (x3.trans (x4.trans x5)) ha
  · have e1 : i = l.length := by omega
    subst e1
    refine .inl ⟨w2, q _ H2 (x1.trans x2) ⟨D, xs, rfl, hxs, ?_, ?_⟩⟩
    · rw [List.take_length] at ha
      exact ha
    · rw [List.length_map]
      exact Nat.le_trans (List.length_filter_le _ _) hl
end
end Ow
-- OwL2
/-! The layer 2: operators, built-ins, calls of the text's own defs, statements. -/
namespace Ow
open PySem L2 Evl

section
variable {X : Cx}
/-! ### rules of several kinds in one -/
def rPlus (K : PySem.W.Frag) : R2 := fun x y H Q => rI0 (fun i j => .int (i + j)) x y H Q ∨ (∃ i j : Str, x = .str i ∧ y = .str j ∧ i.length + j.length ≤ sizeLine ∧ Q (.str (i ++ j)) H) ∨ rCatA K x y H Q ∨ rCat x y H Q
theorem o_plus : OpR X (binaryOp .Add) (rPlus X.K) := op_add.or (op_add_str.or (op_catA.or op_cat))
def rInU (K : PySem.W.Frag) : R2 := fun x y H Q => rIn K false x y H Q ∨ ∃ i j : Str, x = .str i ∧ y = .str j ∧ Q (.bl (!(Builtin.Str.occurrences j i 0 j.length 1).isEmpty)) H
theorem o_in : OpR X (compareOp .In) (rInU X.K) := op_in_seq.or op_in_str
def rSlU (K : PySem.W.Frag) : V → Option Int → Option Int → Hp → VK → Prop := fun x lo hi H Q => rSlA K x lo hi H Q ∨ rSlL K x lo hi H Q ∨ rSlS x lo hi H Q
theorem o_sl : SlR X (rSlU X.K) := sl_tupA.or (sl_list.or sl_str)
abbrev rLt : R2 := rI0 fun i j => .bl (decide (i < j))
abbrev rLe : R2 := rI0 fun i j => .bl (decide (i ≤ j))
abbrev rGt : R2 := rI0 fun i j => .bl (decide (j < i))
abbrev rMinus : R2 := rI0 fun i j => .int (i - j)
abbrev rTimes : R2 := rI CMulW fun i j => .int (i * j)
abbrev rModP : R2 := rI (fun _ j => 0 < j) fun i j => .int (i % j)
abbrev rDivW : R2 := rI CDivW fun i j => .int (i / j)
abbrev rPow : R2 := rI CPow fun i j => .int (i ^ j.toNat)
abbrev rIsNot : R2 := fun x y H Q => y = .non ∧ Q (.bl (!decide (x = .non))) H
/-- len: of texts, lists, tuples -/
def rLenU (K : PySem.W.Frag) : List V → Hp → VK → Prop := fun xs H Q => ∃ x n, xs = [x] ∧ LenV K x H n ∧ Q (.int n) H
theorem c_len : CallR X (.builtin "len") (rLenU X.K) := call_len
end

section
variable {α β γ : Type} {K : PySem.W.Frag} {σ : L2.St} {H H' : Hp} {te ta tb tc : TE} {t u : TT} {e : Rl α} {f : Rl β} {g : Rl γ}
theorem v_addI {i j : Int} (ha : EvV dI ta σ H i) (hb : EvV dI tb σ H j) : EvV dI (tOp (rPlus K) ta tb) σ H (i + j) := v_op ha hb fun H2 v w _ r1 r2 Q q => .inl ⟨i, j, r1, r2, q _ H2 (Ex.refl H2) rfl⟩
theorem v_addS {i j : Str} (ha : EvV dS ta σ H i) (hb : EvV dS tb σ H j) (hz : i.length + j.length ≤ 100000) : EvV dS (tOp (rPlus K) ta tb) σ H (i ++ j) := v_op ha hb fun H2 v w _ r1 r2 Q q => .inr (.inl ⟨i, j, r1, r2, sz_of hz, q _ H2 (Ex.refl H2) rfl⟩)
theorem v_addT {a b : List α} (ha : EvV (dT e) ta σ H a) (hb : EvV (dT e) tb σ H b) (hz : a.length + b.length ≤ lim) : EvV (dT e) (tOp (rPlus K) ta tb) σ H (a ++ b) := v_op ha hb fun H2 v w _ r1 r2 Q q => by
  obtain ⟨p, xs, rfl, hp, hx, _⟩ := r1
  obtain ⟨p', ys, rfl, hp', hy, _⟩ := r2
  have lx := Paired.length hx
  have ly := Paired.length hy
  refine .inr (.inr (.inl ⟨p, p', xs, ys, rfl, rfl, st_of hp, st_of hp', Nat.le_trans (by omega) (show lim ≤ sizeLine by decide), fun e1 => ?_, fun _ e2 => ?_, fun _ _ q' hq => ?_⟩))
  · subst e1
    cases hx
    exact q _ H2 (Ex.refl H2) ⟨p', ys, rfl, hp', hy, by show ([] ++ b).length ≤ lim; rw [List.nil_append]; omega⟩
  · subst e2
    cases hy
    refine q _ H2 (Ex.refl H2) ⟨p, xs, rfl, hp, ?_, by show (a ++ []).length ≤ lim; rw [List.append_nil]; omega⟩
    rw [List.append_nil]
    exact hx
  · exact q _ _ (Ex.new hq) ⟨q', xs ++ ys, rfl, upd_same, pd_app (AllR.up (Ex.new hq) hx) (AllR.up (Ex.new hq) hy), by rw [List.length_append]; exact hz⟩
theorem v_addL {a b : List α} (ha : EvV (dL e) ta σ H a) (hb : EvV (dL e) tb σ H b) (hz : a.length + b.length ≤ lim) : EvV (dL e) (tOp (rPlus K) ta tb) σ H (a ++ b) := v_op ha hb fun H2 v w _ r1 r2 Q q => by
  obtain ⟨p, xs, rfl, hp, hx, _⟩ := r1
  obtain ⟨p', ys, rfl, hp', hy, _⟩ := r2
  have lx := Paired.length hx
  have ly := Paired.length hy
  refine .inr (.inr (.inr ⟨p, p', xs, ys, rfl, rfl, hp, hp', Nat.le_trans (by omega) (show lim ≤ sizeLine by decide), fun q' hq => ?_⟩))
  exact q _ _ (Ex.new hq) ⟨q', xs ++ ys, rfl, upd_same, pd_app (AllR.up (Ex.new hq) hx) (AllR.up (Ex.new hq) hy), by rw [List.length_append]; exact hz⟩

/-! ### in -/
theorem inV_int (i : Int) (l : List Int) : inV (.int i) (l.map V.int) = decide (i ∈ l) := by
  unfold inV
  rw [Bool.eq_iff_iff, List.any_eq_true, decide_eq_true_eq]
  constructor
  · rintro ⟨y, hy, h⟩
    obtain ⟨j, hj, rfl⟩ := List.mem_map.mp hy
    have h' : (j == i) = true := h
    rw [← beq_iff_eq.mp h']
    exact hj
  · intro h
    refine ⟨.int i, List.mem_map.mpr ⟨i, h, rfl⟩, ?_⟩
    show (i == i) = true
    exact beq_self_eq_true i
theorem flat_ints (l : List Int) : (l.map V.int).all flatV = true := by
  rw [List.all_eq_true]
  intro x hx
  obtain ⟨j, _, rfl⟩ := List.mem_map.mp hx
  rfl
theorem v_inT {i : Int} {l : List Int} (ha : EvV dI ta σ H i) (hb : EvV (dT dI) tb σ H l) : EvV dB (tOp (rInU K) ta tb) σ H (decide (i ∈ l)) := v_op ha hb fun H2 v w _ r1 r2 Q q => by
  obtain ⟨p, xs, rfl, hp, hx, _⟩ := r2
  have hx := allI hx
  subst hx
  refine .inl ⟨p, _, rfl, .inr (st_of hp), by rw [show v = V.int i from r1]; rfl, flat_ints l, q _ H2 (Ex.refl H2) ?_⟩
  rw [show v = V.int i from r1]
  show V.bl (inV (.int i) (l.map V.int)) = V.bl (decide (i ∈ l))
  rw [inV_int]
theorem v_notInT {i : Int} {l : List Int} (ha : EvV dI ta σ H i) (hb : EvV (dT dI) tb σ H l) : EvV dB (tOp (rIn K true) ta tb) σ H (decide (i ∉ l)) := v_op ha hb fun H2 v w _ r1 r2 Q q => by
  obtain ⟨p, xs, rfl, hp, hx, _⟩ := r2
  have hx := allI hx
  subst hx
  refine ⟨p, _, rfl, .inr (st_of hp), by rw [show v = V.int i from r1]; rfl, flat_ints l, q _ H2 (Ex.refl H2) ?_⟩
  rw [show v = V.int i from r1]
  show V.bl (!inV (.int i) (l.map V.int)) = V.bl (decide (i ∉ l))
  rw [inV_int, decide_not]
theorem v_notInL {i : Int} {l : List Int} (ha : EvV dI ta σ H i) (hb : EvV (dL dI) tb σ H l) : EvV dB (tOp (rIn K true) ta tb) σ H (decide (i ∉ l)) := v_op ha hb fun H2 v w _ r1 r2 Q q => by
  obtain ⟨p, xs, rfl, hp, hx, _⟩ := r2
  have hx := allI hx
  subst hx
  refine ⟨p, _, rfl, .inl (sq_of hp), by rw [show v = V.int i from r1]; rfl, flat_ints l, q _ H2 (Ex.refl H2) ?_⟩
  rw [show v = V.int i from r1]
  show V.bl (!inV (.int i) (l.map V.int)) = V.bl (decide (i ∉ l))
  rw [inV_int, decide_not]

/-! ### == -/
structure Enc (K : PySem.W.Frag) (e : Rl α) (d : Nat) where
  enc : α → PyData
  dp : ∀ {H v a}, e.r H v a → Dp K H v (enc a)
  can : ∀ a, (enc a).canLay0 = true
  dep : ∀ a, (enc a).depth ≤ d
  eq : ∀ a b, PyData.eqv (enc a) (enc b) = true ↔ a = b
def encI : Enc K dI 0 := ⟨fun i => .int i, fun {H v a} h => by rw [show v = V.int a from h]; exact .int a, fun _ => rfl, fun _ => Nat.le_refl _, fun a b => by show (a == b) = true ↔ _; exact beq_iff_eq⟩
theorem enc_all {d : Nat} (E : Enc K e d) {xs : List V} {l : List α} (h : AllR e H xs l) : DpAll K H xs (l.map E.enc) := by
  induction h with
  | nil => exact .nil
  | cons x _ ih => exact .cons (E.dp x) ih
theorem can_all {d : Nat} (E : Enc K e d) : ∀ l : List α, PyData.canLayAll0 (l.map E.enc) = true
  | [] => rfl
  | a :: l => by
    show ((E.enc a).canLay0 && PyData.canLayAll0 (l.map E.enc)) = true
    rw [E.can, can_all E l]
    rfl
theorem dep_all {d : Nat} (E : Enc K e d) : ∀ l : List α, PyData.depthAll (l.map E.enc) ≤ d
  | [] => Nat.zero_le _
  | a :: l => by
    show max (E.enc a).depth (PyData.depthAll (l.map E.enc)) ≤ d
    have := E.dep a
    have := dep_all E l
    omega
theorem eq_all {d : Nat} (E : Enc K e d) : ∀ l m : List α, PyData.eqvAll (l.map E.enc) (m.map E.enc) = true ↔ l = m
  | [], [] => ⟨fun _ => rfl, fun _ => rfl⟩
  | [], _ :: _ => ⟨fun h => (nomatch (show false = true from h)), fun h => (nomatch h)⟩
  | _ :: _, [] => ⟨fun h => (nomatch (show false = true from h)), fun h => (nomatch h)⟩
  | a :: l, b :: m => by
    show (PyData.eqv (E.enc a) (E.enc b) && PyData.eqvAll (l.map E.enc) (m.map E.enc)) = true ↔ _
    rw [Bool.and_eq_true, E.eq, eq_all E l m, List.cons.injEq]
def encT {d : Nat} (E : Enc K e d) : Enc K (dT e) (d + 1) where
  enc := fun l => .tuple (l.map E.enc)
  dp := fun {H v l} h => by
    obtain ⟨p, xs, rfl, hp, hx, _⟩ := h
    exact .tup (st_of hp) (enc_all E hx)
  can := can_all E
  dep := fun l => Nat.succ_le_succ (dep_all E l)
  eq := fun l m => by
    show PyData.eqvAll _ _ = true ↔ _
    exact eq_all E l m
def encL {d : Nat} (E : Enc K e d) : Enc K (dL e) (d + 1) where
  enc := fun l => .list (l.map E.enc)
  dp := fun {H v l} h => by
    obtain ⟨p, xs, rfl, hp, hx, _⟩ := h
    exact .lst (sq_of hp) (enc_all E hx)
  can := can_all E
  dep := fun l => Nat.succ_le_succ (dep_all E l)
  eq := fun l m => by
    show PyData.eqvAll _ _ = true ↔ _
    exact eq_all E l m
def encP {d d' : Nat} (E : Enc K e d) (F : Enc K f d') : Enc K (dP e f) (max d d' + 1) where
  enc := fun l => .tuple [E.enc l.1, F.enc l.2]
  dp := fun {H v l} h => by
    obtain ⟨p, x, y, rfl, hp, hx, hy⟩ := h
    exact .tup (st_of hp) (.cons (E.dp hx) (.cons (F.dp hy) .nil))
  can := fun l => by
    show ((E.enc l.1).canLay0 && ((F.enc l.2).canLay0 && true)) = true
    rw [E.can, F.can]
    rfl
  dep := fun l => by
    show max (E.enc l.1).depth (max (F.enc l.2).depth 0) + 1 ≤ _
    have := E.dep l.1
    have := F.dep l.2
    omega
  eq := fun l m => by
    show (PyData.eqv (E.enc l.1) (E.enc m.1) && (PyData.eqv (F.enc l.2) (F.enc m.2) && true)) = true ↔ _
    rw [Bool.and_true, Bool.and_eq_true, E.eq, F.eq, Prod.ext_iff]
theorem enc_eqv {d : Nat} (E : Enc K e d) [DecidableEq α] (a b : α) : PyData.eqv (E.enc a) (E.enc b) = decide (a = b) := by
  rw [Bool.eq_iff_iff, E.eq, decide_eq_true_eq]
theorem enc_sh {d : Nat} (E : Enc K e d) (hd : d ≤ 64) (a : α) : SeqAt.shaped (E.enc a) = true := by
  unfold SeqAt.shaped
  rw [E.can, Bool.true_and]
  exact decide_eq_true (Nat.le_trans (E.dep a) hd)
theorem v_eq {d : Nat} [DecidableEq α] (E : Enc K e d) {a b : α} (ha : EvV e ta σ H a) (hb : EvV e tb σ H b) (hd : d ≤ 64 := by decide) : EvV dB (tOp (rEqD K) ta tb) σ H (decide (a = b)) := v_op ha hb fun H2 v w _ r1 r2 Q q =>
  ⟨_, _, E.dp r1, E.dp r2, enc_sh E hd a, enc_sh E hd b, q _ H2 (Ex.refl H2) (by show V.bl _ = V.bl _; rw [enc_eqv])⟩
theorem v_ne {d : Nat} [DecidableEq α] (E : Enc K e d) {a b : α} (ha : EvV e ta σ H a) (hb : EvV e tb σ H b) (hd : d ≤ 64 := by decide) : EvV dB (tOp (rNeD K) ta tb) σ H (decide (a ≠ b)) := v_op ha hb fun H2 v w _ r1 r2 Q q =>
  ⟨_, _, E.dp r1, E.dp r2, enc_sh E hd a, enc_sh E hd b, q _ H2 (Ex.refl H2) (by show V.bl _ = V.bl _; rw [enc_eqv, decide_not])⟩

/-! ### items, slices -/
theorem v_ixT {l : List α} {i : Int} {a : α} (ha : EvV (dT e) ta σ H l) (hb : EvV dI tb σ H i) (h0 : 0 ≤ i) (h : l[i.toNat]? = some a) : EvV e (tOp (rIx K) ta tb) σ H a := v_op ha hb fun H2 v w _ r1 r2 Q q => by
  obtain ⟨p, xs, rfl, hp, hx, _⟩ := r1
  obtain ⟨x, h1, h2⟩ := pd_get' hx h
  exact .inr (.inl ⟨p, xs, i, x, rfl, r2, st_of hp, at_of (by omega) h1, q _ H2 (Ex.refl H2) h2⟩)
theorem v_ixL {l : List α} {i : Int} {a : α} (ha : EvV (dL e) ta σ H l) (hb : EvV dI tb σ H i) (h0 : 0 ≤ i) (h : l[i.toNat]? = some a) : EvV e (tOp (rIx K) ta tb) σ H a := v_op ha hb fun H2 v w _ r1 r2 Q q => by
  obtain ⟨p, xs, rfl, hp, hx, _⟩ := r1
  obtain ⟨x, h1, h2⟩ := pd_get' hx h
  exact .inl ⟨p, xs, i, x, rfl, r2, sq_of hp, at_of (by omega) h1, q _ H2 (Ex.refl H2) h2⟩
theorem v_ixP0 {l : α × β} (ha : EvV (dP e f) ta σ H l) : EvV e (tOp (rIx K) ta (tC (.int 0))) σ H l.1 := v_op ha v_int fun H2 v w _ r1 r2 Q q => by
  obtain ⟨p, x, y, rfl, hp, hx, _⟩ := r1
  exact .inr (.inl ⟨p, [x, y], 0, x, rfl, r2, st_of hp, rfl, q _ H2 (Ex.refl H2) hx⟩)
theorem v_ixP1 {l : α × β} (ha : EvV (dP e f) ta σ H l) : EvV f (tOp (rIx K) ta (tC (.int 1))) σ H l.2 := v_op ha v_int fun H2 v w _ r1 r2 Q q => by
  obtain ⟨p, x, y, rfl, hp, _, hy⟩ := r1
  exact .inr (.inl ⟨p, [x, y], 1, y, rfl, r2, st_of hp, rfl, q _ H2 (Ex.refl H2) hy⟩)
/-- t[1:] of a tuple, of a list -/
theorem cut1 (xs : List V) : cutV xs (some 1) none = xs.drop 1 := by
  unfold cutV
  rw [show HT.sIx xs.length 0 (some (1 : Int)) = min 1 xs.length from HT.sIx_nat _ _ 1, HT.sIx_none]
  cases xs with
  | nil => rfl
  | cons a r =>
    rw [List.length_cons, Nat.min_eq_left (by omega), List.drop_one, List.tail_cons]
    exact List.take_of_length_le (by omega)
theorem v_tailT {l : List α} (ha : EvV (dT e) ta σ H l) : EvV (dT e) (tSl (rSlU K) ta (tPart (tC (.int 1))) tNoPart) σ H (l.drop 1) := fun H1 x Q q => ha H1 x _ fun v H2 x2 r1 => by
  obtain ⟨p, xs, rfl, hp, hx, hl⟩ := r1
  have lx := Paired.length hx
  refine ⟨1, rfl, .inl ⟨p, xs, rfl, st_of hp, fun hw => ?_, fun _ q' hq => ?_⟩⟩
  · have z : HT.sIx xs.length 0 (some (1 : Int)) = min 1 xs.length := HT.sIx_nat _ _ 1
    rw [z] at hw
    have hn : l = [] := List.eq_nil_of_length_eq_zero (by omega)
    subst hn
    exact q _ H2 x2 ⟨p, xs, rfl, hp, hx, hl⟩
  · rw [cut1]
    exact q _ _ (x2.trans (Ex.new hq)) ⟨q', _, rfl, upd_same, pd_drop (AllR.up (Ex.new hq) hx) 1, by rw [List.length_drop]; omega⟩
theorem v_tailL {l : List α} (ha : EvV (dL e) ta σ H l) : EvV (dL e) (tSl (rSlU K) ta (tPart (tC (.int 1))) tNoPart) σ H (l.drop 1) := fun H1 x Q q => ha H1 x _ fun v H2 x2 r1 => by
  obtain ⟨p, xs, rfl, hp, hx, hl⟩ := r1
  refine ⟨1, rfl, .inr (.inl ⟨p, xs, rfl, sq_of hp, fun q' hq => ?_⟩)⟩
  rw [cut1]
  exact q _ _ (x2.trans (Ex.new hq)) ⟨q', _, rfl, upd_same, pd_drop (AllR.up (Ex.new hq) hx) 1, by rw [List.length_drop]; omega⟩

/-! ### built-ins -/
theorem v_cb1 {r : List V → Hp → VK → Prop} {a : α} {b : β} (ha : EvV e ta σ H a) (hr : ∀ H2 v, Ex H H2 → e.r H2 v a → ∀ Q : VK, (∀ z H3, Ex H2 H3 → f.r H3 z b → Q z H3) → r [v] H2 Q) : EvV f (tCB r (tCons ta tNil)) σ H b := fun H1 x Q q =>
  ha H1 x _ fun v H2 x2 r1 => hr H2 v (x.trans x2) r1 Q fun z H3 x3 r3 => q z H3 (x2.trans x3) r3
theorem v_cb1P {r : List V → Hp → VK → Prop} {A : α → Prop} {B : β → Prop} (ha : EvP e ta σ H A) (hr : ∀ H2 v a, Ex H H2 → e.r H2 v a → A a → ∀ Q : VK, (∀ z H3 b, Ex H2 H3 → f.r H3 z b → B b → Q z H3) → r [v] H2 Q) : EvP f (tCB r (tCons ta tNil)) σ H B := fun H1 x Q q =>
  ha H1 x _ fun v H2 a x2 r1 pa => hr H2 v a (x.trans x2) r1 pa Q fun z H3 b x3 r3 pb => q z H3 b (x2.trans x3) r3 pb
theorem v_cb2 {r : List V → Hp → VK → Prop} {a : α} {b : β} {c : γ} (ha : EvV e ta σ H a) (hb : EvV f tb σ H b) (hr : ∀ H2 v w, Ex H H2 → e.r H2 v a → f.r H2 w b → ∀ Q : VK, (∀ z H3, Ex H2 H3 → g.r H3 z c → Q z H3) → r [v, w] H2 Q) : EvV g (tCB r (tCons ta (tCons tb tNil))) σ H c := fun H1 x Q q =>
  ha H1 x _ fun v H2 x2 r1 => hb H2 (x.trans x2) _ fun w H3 x3 r2 => hr H3 v w ((x.trans x2).trans x3) (e.up x3 r1) r2 Q fun z H4 x4 r3 => q z H4 ((x2.trans x3).trans x4) r3
theorem v_lenT {l : List α} (ha : EvV (dT e) ta σ H l) : EvV dI (tCB (rLenU K) (tCons ta tNil)) σ H (l.length : Int) := v_cb1 ha fun H2 v _ r1 Q q => by
  obtain ⟨p, xs, rfl, hp, hx, _⟩ := r1
  exact ⟨_, l.length, rfl, .inr ⟨xs, st_of hp, (Paired.length hx).symm⟩, q _ H2 (Ex.refl H2) rfl⟩
theorem v_lenL {l : List α} (ha : EvV (dL e) ta σ H l) : EvV dI (tCB (rLenU K) (tCons ta tNil)) σ H (l.length : Int) := v_cb1 ha fun H2 v _ r1 Q q => by
  obtain ⟨p, xs, rfl, hp, hx, _⟩ := r1
  exact ⟨_, l.length, rfl, .inl ⟨xs, sq_of hp, (Paired.length hx).symm⟩, q _ H2 (Ex.refl H2) rfl⟩
theorem v_lenS {z : Str} (ha : EvV dS ta σ H z) (hz : z.length ≤ 100000) : EvV dI (tCB (rLenU K) (tCons ta tNil)) σ H (z.length : Int) := v_cb1 ha fun H2 v _ r1 Q q =>
  ⟨v, z.length, rfl, by rw [show v = V.str z from r1]; exact ⟨sz_of hz, rfl⟩, q _ H2 (Ex.refl H2) rfl⟩
theorem v_all {l : List Bool} (ha : EvV (dL dB) ta σ H l) : EvV dB (tCB (rAll K) (tCons ta tNil)) σ H (l.all id) := v_cb1 ha fun H2 v _ r1 Q q => by
  obtain ⟨p, xs, rfl, hp, hx, _⟩ := r1
  have hx := allB hx
  subst hx
  exact ⟨p, l, rfl, sq_of hp, q _ H2 (Ex.refl H2) rfl⟩
theorem v_any {l : List Bool} (ha : EvV (dL dB) ta σ H l) : EvV dB (tCB (rAny K) (tCons ta tNil)) σ H (l.any id) := v_cb1 ha fun H2 v _ r1 Q q => by
  obtain ⟨p, xs, rfl, hp, hx, _⟩ := r1
  have hx := allB hx
  subst hx
  exact ⟨p, l, rfl, sq_of hp, q _ H2 (Ex.refl H2) rfl⟩
theorem v_sum {l : List Int} (ha : EvV (dL dI) ta σ H l) : EvV dI (tCB (rSum K) (tCons ta tNil)) σ H l.sum := v_cb1 ha fun H2 v _ r1 Q q => by
  obtain ⟨p, xs, rfl, hp, hx, _⟩ := r1
  have hx := allI hx
  subst hx
  exact ⟨p, l, rfl, sq_of hp, q _ H2 (Ex.refl H2) rfl⟩
/-- the least of a list of ints -/
def IsLeast (l : List Int) (m : Int) : Prop := m ∈ l ∧ ∀ y, y ∈ l → m ≤ y
def IsGreat (l : List Int) (m : Int) : Prop := m ∈ l ∧ ∀ y, y ∈ l → y ≤ m
theorem v_min {l : List Int} (ha : EvV (dL dI) ta σ H l) (h0 : 0 < l.length) : EvP dI (tCB (rMin K) (tCons ta tNil)) σ H (IsLeast l) := v_cb1P (ha.p (P := fun z => z = l) rfl) fun H2 v a _ r1 pa Q q => by
  subst pa
  obtain ⟨p, xs, rfl, hp, hx, _⟩ := r1
  have hx := allI hx
  subst hx
  exact ⟨p, a, rfl, sq_of hp, h0, fun m hm hle => q _ H2 m (Ex.refl H2) rfl ⟨hm, hle⟩⟩
abbrev rTupleOf (K : PySem.W.Frag) : List V → Hp → VK → Prop := fun xs H Q => ∃ p ys, xs = [.ref p] ∧ ((SqL K H p ys ∧ ∀ l, H l = none → Q (.ref l) (upd H l (.tup ys))) ∨ (SqT K H p ys ∧ Q (.ref p) H))
theorem p_tuple {P : List α → Prop} (ha : EvP (dL e) ta σ H P) : EvP (dT e) (tCB (rTupleOf K) (tCons ta tNil)) σ H P := v_cb1P ha fun H2 v a _ r1 pa Q q => by
  obtain ⟨p, xs, rfl, hp, hx, hl⟩ := r1
  exact ⟨p, xs, rfl, .inl ⟨sq_of hp, fun l hq => q _ _ a (Ex.new hq) ⟨l, xs, rfl, upd_same, AllR.up (Ex.new hq) hx, hl⟩ pa⟩⟩
theorem v_tuple {l : List α} (ha : EvV (dL e) ta σ H l) : EvV (dT e) (tCB (rTupleOf K) (tCons ta tNil)) σ H l := (p_tuple (ha.p (P := fun z => z = l) rfl)).v fun _ z => z
abbrev rListOf (K : PySem.W.Frag) : List V → Hp → VK → Prop := fun xs H Q => ∃ p ys, xs = [.ref p] ∧ (SqL K H p ys ∨ SqT K H p ys) ∧ ∀ l, H l = none → Q (.ref l) (upd H l (.lst ys))
theorem v_listT {l : List α} (ha : EvV (dT e) ta σ H l) : EvV (dL e) (tCB (rListOf K) (tCons ta tNil)) σ H l := v_cb1 ha fun H2 v _ r1 Q q => by
  obtain ⟨p, xs, rfl, hp, hx, hl⟩ := r1
  exact ⟨p, xs, rfl, .inr (st_of hp), fun l hq => q _ _ (Ex.new hq) ⟨l, xs, rfl, upd_same, AllR.up (Ex.new hq) hx, hl⟩⟩
theorem v_listL {l : List α} (ha : EvV (dL e) ta σ H l) : EvV (dL e) (tCB (rListOf K) (tCons ta tNil)) σ H l := v_cb1 ha fun H2 v _ r1 Q q => by
  obtain ⟨p, xs, rfl, hp, hx, hl⟩ := r1
  exact ⟨p, xs, rfl, .inl (sq_of hp), fun l hq => q _ _ (Ex.new hq) ⟨l, xs, rfl, upd_same, AllR.up (Ex.new hq) hx, hl⟩⟩
/-- isinstance(x, T) -/
theorem v_isi {a : α} {c : V} {uu tt : Value} {b : Bool} (ha : EvV e ta σ H a) (hc : ClsV c uu) (ht : ∀ H2 v, Ex H H2 → e.r H2 v a → TyX K H2 v tt) (hk : PySem.W.kitOne K tt uu = some b) : EvV dB (tCB (rIsi K) (tCons ta (tCons (tC c) tNil))) σ H b := fun H1 x Q q =>
  ha H1 x _ fun v H2 x2 r1 => ⟨v, c, tt, uu, b, rfl, hc, ht H2 v (x.trans x2) r1, hk, q _ H2 x2 rfl⟩
theorem ty_int {H2 : Hp} {v : V} {i : Int} (r : dI.r H2 v i) : TyX K H2 v (.type "int") := by
  rw [show v = V.int i from r]
  exact .base (.int i)
theorem ty_str {H2 : Hp} {v : V} {z : Str} (r : dS.r H2 v z) : TyX K H2 v (.type "str") := by
  rw [show v = V.str z from r]
  exact .base (.str z)
theorem ty_tup {H2 : Hp} {v : V} {l : List α} (r : (dT e).r H2 v l) : TyX K H2 v (.type "tuple") := by
  obtain ⟨p, xs, rfl, hp, _⟩ := r
  exact .base (.tup hp)
theorem ty_pair {H2 : Hp} {v : V} {l : α × β} (r : (dP e f).r H2 v l) : TyX K H2 v (.type "tuple") := by
  obtain ⟨p, x, y, rfl, hp, _⟩ := r
  exact .base (.tup hp)

/-! ### promises of pure defs -/
def sp1 (e : Rl α) (f : Rl β) (pre : α → Prop) (post : α → β → Prop) : Sp := fun vs H Q _ => ∃ v a, vs = [v] ∧ e.r H v a ∧ pre a ∧ ∀ w H' y, Ex H H' → f.r H' w y → post a y → Q w H'
def sp2 (e : Rl α) (f : Rl β) (g : Rl γ) (pre : α → β → Prop) (post : α → β → γ → Prop) : Sp := fun vs H Q _ => ∃ v w a b, vs = [v, w] ∧ e.r H v a ∧ f.r H w b ∧ pre a b ∧ ∀ z H' y, Ex H H' → g.r H' z y → post a b y → Q z H'
def sp3 {δ : Type} (e : Rl α) (f : Rl β) (g : Rl γ) (h : Rl δ) (pre : α → β → γ → Prop) (post : α → β → γ → δ → Prop) : Sp := fun vs H Q _ => ∃ v w u a b c, vs = [v, w, u] ∧ e.r H v a ∧ f.r H w b ∧ g.r H u c ∧ pre a b c ∧ ∀ z H' y, Ex H H' → h.r H' z y → post a b c y → Q z H'
theorem p_call1 {E : XK} {A : α → Prop} {pre : α → Prop} {post : α → β → Prop} (ha : EvP e ta σ H A) (hp : ∀ a, A a → pre a) : EvP f (tCall (sp1 e f pre post) [] E (tCons ta tNil)) σ H (fun y => ∃ a, A a ∧ post a y) := fun H1 x Q q =>
  ha H1 x _ fun v H2 a x2 r1 pa => ⟨v, a, rfl, r1, hp a pa, fun w H3 y x3 r3 py => q w H3 y (x2.trans x3) r3 ⟨a, pa, py⟩⟩
theorem v_call1 {E : XK} {a : α} {b : β} {pre : α → Prop} {post : α → β → Prop} (ha : EvV e ta σ H a) (hp : pre a) (hq : ∀ y, post a y → y = b) : EvV f (tCall (sp1 e f pre post) [] E (tCons ta tNil)) σ H b := fun H1 x Q q =>
  ha H1 x _ fun v H2 x2 r1 => ⟨v, a, rfl, r1, hp, fun w H3 y x3 r3 py => q w H3 (x2.trans x3) (hq y py ▸ r3)⟩
theorem p_call1V {E : XK} {a : α} {pre : α → Prop} {post : α → β → Prop} (ha : EvV e ta σ H a) (hp : pre a) : EvP f (tCall (sp1 e f pre post) [] E (tCons ta tNil)) σ H (post a) := fun H1 x Q q =>
  ha H1 x _ fun v H2 x2 r1 => ⟨v, a, rfl, r1, hp, fun w H3 y x3 r3 py => q w H3 y (x2.trans x3) r3 py⟩
theorem p_call2V {E : XK} {a : α} {b : β} {pre : α → β → Prop} {post : α → β → γ → Prop} (ha : EvV e ta σ H a) (hb : EvV f tb σ H b) (hp : pre a b) : EvP g (tCall (sp2 e f g pre post) [] E (tCons ta (tCons tb tNil))) σ H (post a b) := fun H1 x Q q =>
  ha H1 x _ fun v H2 x2 r1 => hb H2 (x.trans x2) _ fun w H3 x3 r2 => ⟨v, w, a, b, rfl, e.up x3 r1, r2, hp, fun w H4 y x4 r3 py => q w H4 y ((x2.trans x3).trans x4) r3 py⟩
theorem v_call2 {E : XK} {a : α} {b : β} {c : γ} {pre : α → β → Prop} {post : α → β → γ → Prop} (ha : EvV e ta σ H a) (hb : EvV f tb σ H b) (hp : pre a b) (hq : ∀ y, post a b y → y = c) : EvV g (tCall (sp2 e f g pre post) [] E (tCons ta (tCons tb tNil))) σ H c := (p_call2V ha hb hp).v hq
theorem p_call3V {δ : Type} {h : Rl δ} {E : XK} {a : α} {b : β} {c : γ} {pre : α → β → γ → Prop} {post : α → β → γ → δ → Prop} (ha : EvV e ta σ H a) (hb : EvV f tb σ H b) (hc : EvV g tc σ H c) (hp : pre a b c) : EvP h (tCall (sp3 e f g h pre post) [] E (tCons ta (tCons tb (tCons tc tNil)))) σ H (post a b c) := fun H1 x Q q =>
  ha H1 x _ fun v H2 x2 r1 => hb H2 (x.trans x2) _ fun w H3 x3 r2 => hc H3 ((x.trans x2).trans x3) _ fun u H4 x4 r3 => ⟨v, w, u, a, b, c, rfl, e.up (x3.trans x4) r1, f.up x4 r2, r3, hp, fun w H5 y x5 r5 py => q w H5 y (((x2.trans x3).trans x4).trans x5) r5 py⟩
theorem v_call3 {δ : Type} {h : Rl δ} {E : XK} {a : α} {b : β} {c : γ} {d : δ} {pre : α → β → γ → Prop} {post : α → β → γ → δ → Prop} (ha : EvV e ta σ H a) (hb : EvV f tb σ H b) (hc : EvV g tc σ H c) (hp : pre a b c) (hq : ∀ y, post a b c y → y = d) : EvV h (tCall (sp3 e f g h pre post) [] E (tCons ta (tCons tb (tCons tc tNil)))) σ H d := (p_call3V ha hb hc hp).v hq

/-! ### statements -/
variable {D : Ends} {tu tw tz : TS}
theorem k_ret {P : β → Prop} (h : EvP f te σ H P) (k : ∀ w H1 y, Ex H H1 → f.r H1 w y → P y → D.rt w H1) : tRet te D σ H := h H (Ex.refl H) _ k
theorem k_retV {y : β} (h : EvV f te σ H y) (k : ∀ w H1, Ex H H1 → f.r H1 w y → D.rt w H1) : tRet te D σ H := h H (Ex.refl H) _ k
theorem k_set {i : Nat} {P : β → Prop} (h : EvP f te σ H P) (k : ∀ w H1 y, Ex H H1 → f.r H1 w y → P y → tz D (σ.set i (some w)) H1) : tSeq (tAsg te (gName i)) tz D σ H := h H (Ex.refl H) _ k
theorem k_setV {i : Nat} {y : β} (h : EvV f te σ H y) (k : ∀ w H1, Ex H H1 → f.r H1 w y → tz D (σ.set i (some w)) H1) : tSeq (tAsg te (gName i)) tz D σ H := h H (Ex.refl H) _ k
theorem k_setV1 {i : Nat} {y : β} (h : EvV f te σ H y) (k : ∀ w H1, Ex H H1 → f.r H1 w y → D.nx (σ.set i (some w)) H1) : tAsg te (gName i) D σ H := h H (Ex.refl H) _ k
/-- if the test fails -/
theorem k_no (h : EvT t σ H false) (k : ∀ H1, Ex H H1 → tz D σ H1) : tSeq (tIfS t tu tNext) tz D σ H := h H (Ex.refl H) _ fun H1 x => k H1 x
theorem k_if {b : Bool} (h : EvT t σ H b) (h1 : b = true → ∀ H1, Ex H H1 → tu { D with nx := tz D } σ H1) (h2 : b = false → ∀ H1, Ex H H1 → tw { D with nx := tz D } σ H1) : tSeq (tIfS t tu tw) tz D σ H := s_if (D := { D with nx := tz D }) h h1 h2
/-- a, b = a pair -/
theorem k_pair {i j : Nat} {P : α × β → Prop} (h : EvP (dP e f) te σ H P) (k : ∀ v w H1 y, Ex H H1 → e.r H1 v y.1 → f.r H1 w y.2 → P y → tz D ((σ.set i (some v)).set j (some w)) H1) :
    tSeq (tAsg te (gTup K 2 (gCons (gName i) (gCons (gName j) gNil)))) tz D σ H := h H (Ex.refl H) _ fun v H1 y x ⟨p, a, b, e1, hp, h1, h2⟩ py => ⟨p, [a, b], e1, st_of hp, rfl, a, [b], rfl, b, [], rfl, rfl, k a b H1 y x h1 h2 py⟩
theorem k_pairV {i j : Nat} {y : α × β} (h : EvV (dP e f) te σ H y) (k : ∀ v w H1, Ex H H1 → e.r H1 v y.1 → f.r H1 w y.2 → tz D ((σ.set i (some v)).set j (some w)) H1) :
    tSeq (tAsg te (gTup K 2 (gCons (gName i) (gCons (gName j) gNil)))) tz D σ H := k_pair (h.p (P := fun z => z = y) rfl) fun v w H1 z x h1 h2 ez => by
  subst ez
  exact k v w H1 x h1 h2
/-- a, b = x, y with plain names -/
theorem k_par {i j : Nat} {y : β} {a : α} (h1 : EvV e ta σ H a) (h2 : EvV f tb σ H y) (k : ∀ v w H1, Ex H H1 → e.r H1 v a → f.r H1 w y → tz D ((σ.set i (some v)).set j (some w)) H1) : tSeq (tPar i j (tCons ta (tCons tb tNil))) tz D σ H :=
  h1 H (Ex.refl H) _ fun v H1 x1 r1 => h2 H1 x1 _ fun w H2 x2 r2 => ⟨v, w, rfl, k v w H2 (x1.trans x2) (e.up x2 r1) r2⟩
end

/-! ### a def of the text, by its name -/
structure FnAt (P : Program) (w : World) (K : PySem.W.Frag) (mg : Str → Option Value) (base : Heap) (x : Str) (k : Nat) (ps : List Str) (sp : Sp) : Prop where
  ex : ∃ (f : Addr) (fd : FuncData), mg x = some (.ref f) ∧ PySem.W.keepIn K (.ref f) = true ∧ Binds K fd ps [] ∧ FnOk P w K mg base CX0 k f fd ps sp
theorem pcall {X : Cx} {x : Str} {k j : Nat} {ps : List Str} {sp : Sp} {p pos : Pos} {e : Expr} {es : List Expr} {t : TA} (h : FnAt X.prog X.w X.K X.mg X.base x k ps sp) (hr : Room j X.A) (hk : k ≤ j) (hg : Gl X x) (ha : PA X (e :: es) t) (hdb : (x == ("__debug__" : Str)) = false := by decide)
    (he : starEach (e :: es) X.env = (false, eval e X.env) :: starEach es X.env := by rfl) (hpl : (backTo pos (starEach es X.env)).any (·.1) = false := by rfl) : PE X (.Call (.Name x p) (e :: es) [] pos) (tCall sp [] E0 t) := by
  obtain ⟨f, fd, m, kp, b, F⟩ := h.ex
  exact pe_call F (hr.mono hk) hg m kp b .nil pass0 ha hdb he hpl
end Ow
-- OwL3
/-! The layer 3: walks that the modules lack: over a list or a tuple, enumerate of a tuple, zip of a tuple and a list. -/
namespace Ow
open PySem PySem.Spec PyProof.Rows L2 Evl

/-! ### a list or a tuple -/
def iAny (K : PySem.W.Frag) (tl : TE) : TI := fun σ H R => tl σ H fun x H1 => ∃ a, x = .ref a ∧ (((∃ xs, SqL K H1 a xs) ∧ R (Itl K a) H1) ∨ ((∃ xs, SqT K H1 a xs) ∧ R (Itt K a) H1))
theorem pi_any {X : Cx} {tg l : Expr} {tl : TE} (hl : PE X l tl) : PI X tg l (iAny X.K tl) := by
  refine ⟨fun pins s σ H R I h => ?_⟩
  refine thn (hl.run pins s σ H _ I h) fun v s1 ⟨x, H1, I1, r1, q1⟩ => ?_
  obtain ⟨a, e, q1⟩ := q1
  subst e
  cases r1
  rcases q1 with ⟨⟨xs, hq⟩, q⟩ | ⟨⟨xs, hq⟩, q⟩
  · obtain ⟨its, rv, p, hz⟩ := I1.list hq
    refine wpAny_pyIter_list p.isList ?_
    refine ⟨s1.heap.objs.size, [s1.heap.objs.size], _, _, H1, rfl, I1.kept (t' := s1.toks) fun b o e => Heap.get?_push_of_some _ e, turn_list a _, ⟨_, Heap.get?_push_size _ rfl, rfl, rfl⟩, fun b hb => ?_, q⟩
    have e : b = s1.heap.objs.size := by simpa using hb
    subst e
    exact I1.fpOk (Nat.le_refl _) (I1.hok.fresh (Nat.le_refl _))
  · obtain ⟨its, rv, p, hz⟩ := I1.tuple hq
    refine wpAny_pyIter_tuple (show s1.heap.IsTuple a its.toArray from p) ?_
    refine ⟨s1.heap.objs.size, [s1.heap.objs.size], _, _, H1, rfl, I1.kept (t' := s1.toks) fun b o e => Heap.get?_push_of_some _ e, turn_tuple a _, ⟨_, Heap.get?_push_size _ rfl, rfl, rfl⟩, fun b hb => ?_, q⟩
    have e : b = s1.heap.objs.size := by simpa using hb
    subst e
    exact I1.fpOk (Nat.le_refl _) (I1.hok.fresh (Nat.le_refl _))
theorem s_anyL {α : Type} {K : PySem.W.Frag} {σ : L2.St} {H : Hp} {te : TE} {e : Rl α} {l : List α} (h : EvV (dL e) te σ H l) : Src e (iAny K te) σ H l := fun H1 x R q => h H1 x _ fun v H2 x2 ⟨p, xs, e1, hq, ha, _⟩ => ⟨p, e1, .inl ⟨⟨xs, sq_of hq⟩, q _ H2 x2 (wk_list (K := K) (sq_of hq) ha)⟩⟩
theorem s_anyT {α : Type} {K : PySem.W.Frag} {σ : L2.St} {H : Hp} {te : TE} {e : Rl α} {l : List α} (h : EvV (dT e) te σ H l) : Src e (iAny K te) σ H l := fun H1 x R q => h H1 x _ fun v H2 x2 ⟨p, xs, e1, hq, ha, _⟩ => ⟨p, e1, .inr ⟨⟨xs, st_of hq⟩, q _ H2 x2 (wk_tup (K := K) (st_of hq) ha)⟩⟩

/-! ### enumerate of a tuple -/
section
variable {prog : Program} {w : World} {A : Around} {E : Value → Shared → Prop} {s : Shared}
theorem meets_enumerate_newT (l : Addr) (items : Array Value) (n : Nat) (dct : Option Addr) (sl : Array (Option Value)) :
    Meets (Builtin.«enumerate.__new__» ⟨[.type "enumerate", .ref l], []⟩) (fun _ R s => s.heap.get? l = some { cls := .type "tuple", dict := dct, data := .seq items n, slots := sl } ∧
      R (.ok (.ret (.ref (s.heap.push { cls := .type "tuple_iterator", data := .fields #[.ref l, .int 0 0] }).objs.size)))
        { s with heap := (s.heap.push { cls := .type "tuple_iterator", data := .fields #[.ref l, .int 0 0] }).push { cls := .type "enumerate", data := .fields #[.none, .bool false, .ref s.heap.objs.size, rawInt 0, .none, .none] } }) :=
  .of_wp fun prog w A R s h => by
    obtain ⟨hp, g, d, tk, os⟩ := s; obtain ⟨hl, h⟩ := h
    have hsub := sub_enumerate
    have hL : Heap.IsTuple (Shared.heap ⟨hp, g, d, tk, os⟩) l items := ⟨_, hl, rfl, n, rfl⟩
    wp_walk using wpAny_loadPart' hl
    refine wpAny_stack_any fun st => wpAny_pure ?_
    split
    · rename_i c _ _ _ _ _
      cases (c == Value.type "enumerate")
      · wp_walk using wpAny_loadPart' hl, wpAny_pyIter_tuple hL
        exact ⟨_, rfl, h⟩
      · wp_walk using wpAny_loadPart' hl, wpAny_pyIter_tuple hL
        exact ⟨_, rfl, h⟩
    · wp_walk using wpAny_loadPart' hl, wpAny_pyIter_tuple hL
      exact ⟨_, rfl, h⟩
theorem call_enumerate_tup {l : Addr} {items : Array Value} {Q : Value → Shared → Prop} (hL : s.heap.IsTuple l items)
    (h : ∀ h', IsEnum h' (s.heap.objs.size + 1) s.heap.objs.size 0 .none → h'.IsTupleIter s.heap.objs.size l 0 → h'.objs.size = s.heap.objs.size + 2 →
      (∀ b o, s.heap.get? b = some o → h'.get? b = some o) → Q (.ref (s.heap.objs.size + 1)) { s with heap := h' }) :
    wpAny (model prog w) A (call (.type "enumerate") [.ref l]) Q E s := by
  obtain ⟨⟨c, dct, dt, sl⟩, hl, hc, n, hd⟩ := hL
  replace hc : c = .type "tuple" := hc
  replace hd : dt = .seq items n := hd
  subst hc hd
  refine callType_new F.called_enumerate (by decide) (F.typeCall_enumerate_1 _) (F.newCall_enumerate_1 _) (fun obj => F.args_object_init_2 obj _) F.entry_enumerate_new
    (meets_enumerate_newT l items n dct sl) ⟨hl, ?_⟩
  have hz : (s.heap.push { cls := .type "tuple_iterator", data := .fields #[.ref l, .int 0 0] }).objs.size = s.heap.objs.size + 1 := Heap.size_push ..
  show _ ∧ _
  rw [hz]
  have he : IsEnum ((s.heap.push { cls := .type "tuple_iterator", data := .fields #[.ref l, .int 0 0] }).push
      { cls := .type "enumerate", data := .fields #[.none, .bool false, .ref s.heap.objs.size, rawInt 0, .none, .none] }) (s.heap.objs.size + 1) s.heap.objs.size 0 .none := by
    have := Heap.get?_push_size (s.heap.push { cls := .type "tuple_iterator", data := .fields #[.ref l, .int 0 0] })
      (o := { cls := .type "enumerate", data := .fields #[.none, .bool false, .ref s.heap.objs.size, rawInt 0, .none, .none] }) rfl
    rw [hz] at this; exact this
  refine ⟨⟨_, he, rfl⟩, h _ he ⟨_, Heap.get?_push_of_some _ (Heap.get?_push_size _ rfl), rfl, rfl⟩ (by rw [Heap.size_push, hz]) fun b o x => Heap.get?_push_of_some _ (Heap.get?_push_of_some _ x)⟩
theorem wpAny_pyNext_enum_endT {e it l : Addr} {i : Nat} {items : Array Value} {old : Value} {Q : Option Value → Shared → Prop} (hh : A.handled = none)
    (he : IsEnum s.heap e it i old) (hit : s.heap.IsTupleIter it l i) (hl : s.heap.IsTuple l items) (hx : items[i]? = none)
    (hQ : ∀ h', Heap.ExtBut it s.heap h' → Q none { s with heap := h' }) : wpAny (model prog w) A (pyNext (.ref e)) Q E s := by
  have hT : s.TypeIs (.ref e) "enumerate" := ⟨_, he, rfl⟩
  unfold pyNext
  refine wpAny_bind (wpAny_attempt (wpAny_callSpecial?_slot (name := Str.ofString "__next__") hT F.slot_enumerate_next
    (wpAny_call_entry F.slot_enumerate_next hT F.entry_enumerate_next ?_ (F.args_enumerate_next_1 _))))
  show wpAny _ _ (field (.ref e) 2 >>= _) _ _ _
  refine wpAny_bind (wpAny_field he rfl (x := .ref it) rfl ?_)
  refine wpAny_bind (wpAny_nextOf_tuple_end hh hit hl hx fun h' x he' hx' => ?_)
  obtain ⟨o, ho, hc⟩ := hx'
  refine wpAny_bind (wpAny_isInstance (T := "StopIteration") (b := true) ⟨o, ho, hc⟩ isSubtype_stop ?_)
  exact wpAny_pure (hQ _ he')
end

def IteT (K : PySem.W.Frag) (a : Addr) : It :=
  ⟨fun i H => ∃ (xs : List V) (x : V), SqT K H a xs ∧ xs[i]? = some x, fun i H v H' => ∃ T x, v = .ref T ∧ H T = none ∧ H' = upd H T (.tup [.int (i : Nat), x]) ∧ ∀ xs, SqT K H a xs → xs[i]? = some x, fun i H => ∃ xs : List V, SqT K H a xs ∧ xs.length ≤ i⟩
theorem enum_tup_apart {h : Heap} {e it a : Addr} {i : Int} {old : Value} {k : Nat} {its : Array Value} (he : IsEnum h e it i old) (hit : h.IsTupleIter it a k) (ht : h.IsTuple a its) : a ≠ it ∧ e ≠ a := by
  obtain ⟨o, ho, hc, n, hd⟩ := ht
  obtain ⟨o2, ho2, hc2, hd2⟩ := hit
  refine ⟨fun q => ?_, fun q => ?_⟩
  · subst q
    rw [ho] at ho2
    cases ho2
    rw [hd] at hd2
    cases hd2
  · subst q
    have he' : h.get? e = some _ := he
    rw [ho] at he'
    cases he'
    cases hd
theorem turn_enumT {P : Program} {w : World} {K : PySem.W.Frag} {elts : List Expr} {kk : Nat} {tpos : Pos} (a e it : Addr) :
    Turn P w K (.Tuple elts kk tpos) (IteT K a) [e, it] e (fun i h => (∃ old, IsEnum h e it ((i : Nat) : Int) old) ∧ h.IsTupleIter it a i ∧ e ≠ it) where
  mem := by simp
  obj := fun i h st b hb => by
    obtain ⟨⟨old, he⟩, ⟨o, ho, hc, hd⟩, _⟩ := st
    have e' : b = e ∨ b = it := by simpa using hb
    rcases e' with z | z
    · rw [z]; exact ⟨_, he, fun v q => nomatch q⟩
    · rw [z]; exact ⟨o, ho, fun v q => by rw [hd] at q; cases q⟩
  keep := fun i h h' st k => let ⟨⟨old, he⟩, hi, hne⟩ := st; ⟨⟨old, k e (by simp) _ he⟩, hi.at fun o q => k it (by simp) o q, hne⟩
  item := by
    intro X hP hw hK hc i pins s σ H E I hf st hg
    subst hP hw hK
    obtain ⟨⟨old, he⟩, hit, hne⟩ := st
    obtain ⟨xs, x, hq, hx⟩ := hg
    obtain ⟨its, rv, p, hz⟩ := I.tuple hq
    obtain ⟨u, hu, ru⟩ := rv.get hx
    have pt : s.heap.IsTuple a its.toArray := p
    obtain ⟨hai, hea⟩ := enum_tup_apart he hit pt
    have hel : e < s.heap.objs.size := Heap.lt_size he
    have hil : it < s.heap.objs.size := by obtain ⟨_, q, _⟩ := hit; exact Heap.lt_size q
    have hlt : i < its.toArray.size := by
      have := (List.getElem?_eq_some_iff.mp hu).1
      simpa using this
    refine wpAny_pyNext_enum_itemC (Draws.tuple (show X.A.in1.handled = none from I.ok.hd hc) it a hai its.toArray) he ⟨hit, pt⟩ hlt hne (by simp [hne, hea]) fun y h' tk hy ho hst hT hsz hk => ?_
    have ey : y = u := by
      have hu' : its.toArray[i]? = some u := by simpa using hu
      rw [hu'] at hy
      exact (Option.some.inj hy).symm
    subst ey
    refine ⟨_, rfl, wpAny_letOwnedTupleGo_enum (s := { s with heap := h', toks := tk + 1 }) ho fun h'' he' sb => ?_⟩
    have hT2 : h''.get? s.heap.objs.size = some { cls := .type "tuple", data := .seq #[.int i tk, y] } := (sb.2 _ (Nat.ne_of_gt hel)).trans hT
    have new : ObjOk X.prog X.w (upd H s.heap.objs.size (.tup [.int (i : Nat), x])) h'' s.heap.objs.size (.tup [.int (i : Nat), x]) :=
      ⟨by show 2 ≤ sizeLine; decide, [.int i tk, y], .cons ⟨_, rfl⟩ (.cons ru .nil), ⟨_, hT2, rfl, _, rfl⟩⟩
    have I1 : Inv X pins σ (upd H s.heap.objs.size (.tup [.int (i : Nat), x])) { s with heap := h'', toks := tk + 1 } :=
      I.turnedNew (ch := [e, it]) (fun b ob hb q => (sb.2 b (fun z => hb (by simp [z]))).trans (hk b ob (fun z => hb (by simp [z])) (fun z => hb (by simp [z])) q)) hf (Nat.le_refl _) new
    refine ⟨.ref s.heap.objs.size, _, I1, rfl, ⟨_, x, rfl, I.hok.fresh (Nat.le_refl _), rfl, fun ys hy => by rw [I.tuple_inj hy hq]; exact hx⟩, ⟨⟨y, ?_⟩, hst.1.at fun o q => (sb.2 it (Ne.symm hne)).trans q, hne⟩, fun b hb => ?_⟩
    · have e1 : ((i + 1 : Nat) : Int) = (i : Int) + 1 := by omega
      rw [e1]; exact he'
    · have hb' : b < s.heap.objs.size := by
        have e' : b = e ∨ b = it := by simpa using hb
        rcases e' with z | z
        · rw [z]; exact hel
        · rw [z]; exact hil
      rw [upd_ne (Nat.ne_of_lt hb')]
      exact (hf b hb).1
  done := by
    intro X hP hw hK hc i pins s σ H E I hf st hg
    subst hP hw hK
    obtain ⟨⟨old, he⟩, hit, hne⟩ := st
    obtain ⟨xs, hq, hx⟩ := hg
    obtain ⟨its, rv, p, hz⟩ := I.tuple hq
    have pt : s.heap.IsTuple a its.toArray := p
    obtain ⟨hai, hea⟩ := enum_tup_apart he hit pt
    obtain ⟨f0, f1, f2, f3, f4, f5⟩ := hf it (by simp)
    have hl := rv.length
    -- the tuple ends at its length or before: a state at or behind the end
    exact wpAny_pyNext_enum_endT (I.ok.hd hc) he hit pt (by simp; omega) fun h' eb => ⟨rfl, I.turned (t' := s.toks) (fun b o hb q => eb b o hb q) f0 f1 f3 f4 f5⟩
  self := fun A i s Q E st h => let ⟨⟨_, he⟩, _⟩ := st; wpAny_pyIter_enum he h
def iEnumT (K : PySem.W.Frag) (ta : TA) : TI := fun σ H R => ta σ H fun vs H1 => ∃ a xs, vs = [.ref a] ∧ SqT K H1 a xs ∧ R (IteT K a) H1
theorem pi_enumT {X : Cx} {e : Expr} {ta : TA} {p pos tpos : Pos} {elts : List Expr} {kk : Nat} (hg : Gl X "enumerate") (hm : X.mg "enumerate" = none) (ha : PA X [e] ta) (hs : starEach [e] X.env = [(false, eval e X.env)] := by rfl) :
    PI X (.Tuple elts kk tpos) (.Call (.Name "enumerate" p) [e] [] pos) (iEnumT X.K ta) := by
  refine ⟨fun pins s σ H R I h => ?_⟩
  refine Call_ (ld_blt I hg hm boot_enumerate (PyProof.Rows.callWith_type1 (thn (ha.run pos pins s σ H _ I h) fun us s1 ⟨vs, H1, I1, r1, q1⟩ => ?_) hs rfl))
  obtain ⟨a, xs, ex, hq, q⟩ := q1
  subst ex
  cases r1 with
  | cons r rr =>
    cases rr
    cases r
    obtain ⟨its, rv, p', hz⟩ := I1.tuple hq
    refine call_enumerate_tup (show s1.heap.IsTuple a its.toArray from p') fun h' he hit hsz hk => wpAny_pyIter_enum he ?_
    have I2 : Inv X pins σ H1 { s1 with heap := h' } := I1.kept (t' := s1.toks) hk
    refine ⟨s1.heap.objs.size + 1, [s1.heap.objs.size + 1, s1.heap.objs.size], _, _, H1, rfl, I2, turn_enumT a (s1.heap.objs.size + 1) s1.heap.objs.size, ⟨⟨.none, he⟩, hit, Nat.succ_ne_self _⟩, fun b hb => ?_, q⟩
    have e' : b = s1.heap.objs.size + 1 ∨ b = s1.heap.objs.size := by simpa using hb
    have hle : s1.heap.objs.size ≤ b := by
      rcases e' with z | z
      · rw [z]; exact Nat.le_add_right _ _
      · rw [z]; exact Nat.le_refl _
    exact I1.fpOk hle (I1.hok.fresh hle)

/-! ### zip of a tuple and a list -/
def ItzM (K : PySem.W.Frag) (a b : Addr) : It :=
  ⟨fun i H => ∃ (xs ys : List V) (x y : V), SqT K H a xs ∧ SqL K H b ys ∧ xs[i]? = some x ∧ ys[i]? = some y,
    fun i H v H' => ∃ T x y, v = .ref T ∧ H T = none ∧ H' = upd H T (.tup [x, y]) ∧ (∀ xs, SqT K H a xs → xs[i]? = some x) ∧ ∀ ys, SqL K H b ys → ys[i]? = some y,
    fun i H => ∃ xs ys : List V, SqT K H a xs ∧ SqL K H b ys ∧ (xs.length = i ∨ ys.length = i) ∧ i ≤ xs.length ∧ i ≤ ys.length⟩
theorem turn_zipM {P : Program} {w : World} {K : PySem.W.Frag} {elts : List Expr} {kk : Nat} {tpos : Pos} {a b z TI TO i1 i2 : Addr} (D : ZipSep2 z TI TO i1 i2 [i1, a] [i2, b]) :
    Turn P w K (.Tuple elts kk tpos) (ItzM K a b) [z, TI, TO, i1, i2] z (fun i h => IsZip h z TI TO .none ∧ IsTupOf2 h TI (.ref i1) (.ref i2) ∧ (∃ x y, IsTupOf2 h TO x y) ∧ h.IsTupleIter i1 a i ∧ h.IsListIter i2 b i) where
  mem := by simp
  obj := fun i h st c hc => by
    obtain ⟨hz, hTI, ⟨x, y, hTO⟩, ⟨o1, e1, _, d1⟩, ⟨o2, e2, _, d2⟩⟩ := st
    have e' : c = z ∨ c = TI ∨ c = TO ∨ c = i1 ∨ c = i2 := by simpa using hc
    rcases e' with q | q | q | q | q
    · rw [q]; exact ⟨_, hz, fun v q => nomatch q⟩
    · rw [q]; exact ⟨_, hTI, fun v q => nomatch q⟩
    · rw [q]; exact ⟨_, hTO, fun v q => nomatch q⟩
    · rw [q]; exact ⟨o1, e1, fun v q => by rw [d1] at q; cases q⟩
    · rw [q]; exact ⟨o2, e2, fun v q => by rw [d2] at q; cases q⟩
  keep := fun i h h' st k => by
    obtain ⟨hz, hTI, ⟨x, y, hTO⟩, h1, h2⟩ := st
    exact ⟨k z (by simp) _ hz, k TI (by simp) _ hTI, ⟨x, y, k TO (by simp) _ hTO⟩, h1.at fun o q => k i1 (by simp) o q, h2.at fun o q => k i2 (by simp) o q⟩
  item := by
    intro X hP hw hK hc i pins s σ H E I hf st hg
    subst hP hw hK
    obtain ⟨hz, hTI, ⟨x0, y0, hTO⟩, h1, h2⟩ := st
    obtain ⟨xs, ys, x, y, hqx, hqy, hx, hy⟩ := hg
    obtain ⟨its, rv, p, _⟩ := I.tuple hqx
    obtain ⟨its2, rv2, p2, _⟩ := I.list hqy
    obtain ⟨u, hu, ru⟩ := rv.get hx
    obtain ⟨u2, hu2, ru2⟩ := rv2.get hy
    have hzl : z < s.heap.objs.size := Heap.lt_size hz
    have pt : s.heap.IsTuple a its.toArray := p
    have pl : s.heap.IsList b its2.toArray := p2.isList
    have ha1 : a ≠ i1 := fun e => D.sep1_2 |> fun _ => by
      subst e
      obtain ⟨o, ho, hc1, _⟩ := pt
      obtain ⟨o2, ho2, hc2, _⟩ := h1
      rw [ho] at ho2
      cases ho2
      rw [hc1] at hc2
      exact absurd hc2 (by decide)
    have hb2 : b ≠ i2 := fun e => by
      subst e
      obtain ⟨o, ho, hc1, _⟩ := pl
      obtain ⟨o2, ho2, hc2, _⟩ := h2
      rw [ho] at ho2
      cases ho2
      rw [hc1] at hc2
      exact absurd hc2 (by decide)
    have hh : X.A.in1.handled = none := I.ok.hd hc
    refine wpAny_pyNext_zipD2_item D (Draws.tuple hh i1 a ha1 its.toArray) (Draws.list hh i2 b hb2 its2.toArray) hz hTI hTO ⟨h1, pt⟩ ⟨h2, pl⟩ (i := i)
      (by have := (List.getElem?_eq_some_iff.mp hu).1; simpa using this) (by have := (List.getElem?_eq_some_iff.mp hu2).1; simpa using this) fun x1 x2 h' tk y1 y2 z' TO' st1 st2 hT hsz hk => ?_
    have e1 : x1 = u := by
      have hu' : its.toArray[i]? = some u := by simpa using hu
      rw [hu'] at y1
      exact (Option.some.inj y1).symm
    have e2 : x2 = u2 := by
      have hu' : its2.toArray[i]? = some u2 := by simpa using hu2
      rw [hu'] at y2
      exact (Option.some.inj y2).symm
    subst e1 e2
    refine ⟨_, rfl, wpAny_letOwnedTupleGo_zip (s := { s with heap := h', toks := tk }) z' fun h'' z'' sb => ?_⟩
    have hT2 : h''.get? s.heap.objs.size = some { cls := .type "tuple", data := .seq #[x1, x2] } := (sb.2 _ (Nat.ne_of_gt hzl)).trans hT
    have new : ObjOk X.prog X.w (upd H s.heap.objs.size (.tup [x, y])) h'' s.heap.objs.size (.tup [x, y]) :=
      ⟨by show 2 ≤ sizeLine; decide, [x1, x2], .cons ru (.cons ru2 .nil), ⟨_, hT2, rfl, _, rfl⟩⟩
    have I1 : Inv X pins σ (upd H s.heap.objs.size (.tup [x, y])) { s with heap := h'', toks := tk } :=
      I.turnedNew (ch := [z, TI, TO, i1, i2]) (fun c o hb q => (sb.2 c (fun q' => hb (by simp [q']))).trans (hk c o (fun q' => hb (by simp [q'])) (fun q' => hb (by simp [q'])) (fun q' => hb (by simp [q'])) (fun q' => hb (by simp [q'])) q)) hf (Nat.le_refl _) new
    refine ⟨.ref s.heap.objs.size, _, I1, rfl, ⟨_, x, y, rfl, I.hok.fresh (Nat.le_refl _), rfl, fun l hl => by rw [I.tuple_inj hl hqx]; exact hx, fun l hl => by rw [I.list_inj hl hqy]; exact hy⟩, ⟨z'', ?_, ⟨x1, x2, ?_⟩, ?_, ?_⟩, fun c hcm => ?_⟩
    · exact (sb.2 _ D.TIz).trans (hk _ _ D.TIz D.TITO D.TIi1 D.TIi2 hTI)
    · exact (sb.2 _ D.TOz).trans TO'
    · exact st1.1.at fun o q => (sb.2 _ D.zi1.symm).trans q
    · exact st2.1.at fun o q => (sb.2 _ D.zi2.symm).trans q
    · have hlt : c < s.heap.objs.size := by
        have e' : c = z ∨ c = TI ∨ c = TO ∨ c = i1 ∨ c = i2 := by simpa using hcm
        rcases e' with q | q | q | q | q
        · rw [q]; exact hzl
        · rw [q]; exact Heap.lt_size hTI
        · rw [q]; exact Heap.lt_size hTO
        · rw [q]; obtain ⟨_, e1, _⟩ := h1; exact Heap.lt_size e1
        · rw [q]; obtain ⟨_, e2, _⟩ := h2; exact Heap.lt_size e2
      rw [upd_ne (Nat.ne_of_lt hlt)]
      exact (hf c hcm).1
  done := by
    intro X hP hw hK hc i pins s σ H E I hf st hg
    subst hP hw hK
    obtain ⟨hz, hTI, ⟨x0, y0, hTO⟩, h1, h2⟩ := st
    obtain ⟨xs, ys, hqx, hqy, hend, hle1, hle2⟩ := hg
    obtain ⟨its, rv, p, _⟩ := I.tuple hqx
    obtain ⟨its2, rv2, p2, _⟩ := I.list hqy
    have l1 := rv.length
    have l2 := rv2.length
    have pt : s.heap.IsTuple a its.toArray := p
    have pl : s.heap.IsList b its2.toArray := p2.isList
    have ha1 : a ≠ i1 := fun e => by
      subst e
      obtain ⟨o, ho, hc1, _⟩ := pt
      obtain ⟨o2, ho2, hc2, _⟩ := h1
      rw [ho] at ho2
      cases ho2
      rw [hc1] at hc2
      exact absurd hc2 (by decide)
    have hb2 : b ≠ i2 := fun e => by
      subst e
      obtain ⟨o, ho, hc1, _⟩ := pl
      obtain ⟨o2, ho2, hc2, _⟩ := h2
      rw [ho] at ho2
      cases ho2
      rw [hc1] at hc2
      exact absurd hc2 (by decide)
    have hh : X.A.in1.handled = none := I.ok.hd hc
    refine wpAny_pyNext_zipD2_end D (Draws.tuple hh i1 a ha1 its.toArray) (Draws.list hh i2 b hb2 its2.toArray) hz hTI hTO ⟨h1, pt⟩ ⟨h2, pl⟩ (i := i)
      (by simp; omega) (by simp; omega) (by simp; omega) fun h' tk hk => ⟨rfl, I.turnedL (t' := tk) (ch := [z, TI, TO, i1, i2]) (fun c o hb q =>
      hk c o (fun q' => hb (by simp [q'])) (fun q' => hb (by simp [q'])) (fun q' => hb (by simp [q'])) (fun q' => hb (by simp [q'])) q) hf⟩
  self := fun A i s Q E st h => wpAny_pyIter_zip st.1 h
def iZipM (K : PySem.W.Frag) (ta : TA) : TI := fun σ H R => ta σ H fun vs H1 => ∃ a b xs ys, vs = [.ref a, .ref b] ∧ SqT K H1 a xs ∧ SqL K H1 b ys ∧ R (ItzM K a b) H1
theorem pi_zipM {X : Cx} {e e2 : Expr} {ta : TA} {p pos tpos : Pos} {elts : List Expr} {kk : Nat} (hg : Gl X "zip") (hm : X.mg "zip" = none) (ha : PA X [e, e2] ta)
    (hs : starEach [e, e2] X.env = (false, eval e X.env) :: starEach [e2] X.env := by rfl) (hpl : (backTo pos (starEach [e2] X.env)).any (·.1) = false := by rfl) :
    PI X (.Tuple elts kk tpos) (.Call (.Name "zip" p) [e, e2] [] pos) (iZipM X.K ta) := by
  refine ⟨fun pins s σ H R I h => ?_⟩
  refine Call_ (ld_blt I hg hm PyProof.Rows.boot_zip (PyProof.Rows.callWith_type1 (thn (ha.run pos pins s σ H _ I h) fun us s1 ⟨vs, H1, I1, r1, q1⟩ => ?_) hs hpl))
  obtain ⟨a, b, xs, ys, ex, hqx, hqy, q⟩ := q1
  subst ex
  cases r1 with
  | cons r rr =>
    cases rr with
    | cons r' rr =>
      cases rr
      cases r
      cases r'
      have fresh5 : ∀ c, c ∈ [s1.heap.objs.size + 4, s1.heap.objs.size + 2, s1.heap.objs.size + 3, s1.heap.objs.size, s1.heap.objs.size + 1] → FpOk X pins H1 c := fun c hcm => by
        have e' : c = s1.heap.objs.size + 4 ∨ c = s1.heap.objs.size + 2 ∨ c = s1.heap.objs.size + 3 ∨ c = s1.heap.objs.size ∨ c = s1.heap.objs.size + 1 := by simpa using hcm
        have hle : s1.heap.objs.size ≤ c := by
          rcases e' with z | z | z | z | z
          · rw [z]; exact Nat.le_add_right _ _
          · rw [z]; exact Nat.le_add_right _ _
          · rw [z]; exact Nat.le_add_right _ _
          · rw [z]; exact Nat.le_refl _
          · rw [z]; exact Nat.le_add_right _ _
        exact I1.fpOk hle (I1.hok.fresh hle)
      obtain ⟨its, rv, p1, _⟩ := I1.tuple hqx
      obtain ⟨its2, rv2, p2, _⟩ := I1.list hqy
      have pt : s1.heap.IsTuple a its.toArray := p1
      have pl : s1.heap.IsList b its2.toArray := p2.isList
      obtain ⟨o1, ho1, _⟩ := id pt
      refine zip_begins2 (begins_tuple a its.toArray) (begins_list b its2.toArray) pt pl fun h' hz hTI hTO h1 h2 hsz hk => wpAny_pyIter_zip hz ?_
      have I2 : Inv X pins σ H1 { s1 with heap := h' } := I1.kept (t' := s1.toks) hk
      exact ⟨s1.heap.objs.size + 4, [s1.heap.objs.size + 4, s1.heap.objs.size + 2, s1.heap.objs.size + 3, s1.heap.objs.size, s1.heap.objs.size + 1], _, _, H1, rfl, I2,
        turn_zipM (zip_sep2 (fp1 := [a]) (fp2 := [b]) (by intro c hc; have : c = a := by simpa using hc
                                                          rw [this]; exact Heap.lt_size ho1) (by intro c hc; have : c = b := by simpa using hc
                                                                                                 rw [this]; exact p2.lt)), ⟨hz, hTI, ⟨_, _, hTO⟩, ⟨_, h1, rfl, rfl⟩, ⟨_, h2, rfl, rfl⟩⟩, fresh5, q⟩
end Ow
-- OwL4
/-! The layer 4: sorted, by data and by a def of the text. -/
namespace Ow
open PySem PySem.Spec PyProof.Rows PySem.W L2 Evl

/-! ### sorted of a tuple -/
section
variable {prog : Program} {w : World} {A : Around} {E : Value → Shared → Prop} {s : Shared}
theorem collect_tup {l : Addr} {vs : List Value} {Q : List Value → Shared → Prop} (hl : s.heap.IsTuple l vs.toArray)
    (h : Q vs { s with heap := (s.heap.push (seqObj "list" #[] 0)).update s.heap.objs.size (Obj.mapSeq (· ++ vs.toArray)) }) (hsz : vs.length ≤ sizeLine) :
    wpAny (model prog w) A (collect (.ref l)) Q E s := by
  obtain ⟨o, ho, hc, n, hd⟩ := id hl
  unfold collect
  refine wpAny_bind (wpAny_runValue (codeAny_builtin entry_proto_collect' ?_))
  show wpAny _ _ (do again (.builtin "list.__iadd__" ⟨[← newList [], .ref l], []⟩)) _ _ s
  refine wpAny_bind (wpAny_newList (wpAny_pure ⟨Code.quiet_builtin _ (by decide +kernel), codeAny_builtin entry_list_iadd' ?_⟩))
  show wpAny _ _ (Builtin.List.listExtendWith (.ref s.heap.objs.size) (.ref l) (.ref s.heap.objs.size)) _ _ { s with heap := s.heap.push (seqObj "list" #[] 0) }
  unfold Builtin.List.listExtendWith
  have ho' : (s.heap.push (seqObj "list" #[] 0)).get? l = some o := Heap.get?_push_of_some _ ho
  refine wpAny_bind (wpAny_typeOf (T := "tuple") ⟨o, ho', hc⟩ ?_)
  have ht : (Value.type "tuple" == Value.type "tuple") = true := by rfl
  rw [if_pos (by rw [ht]; simp)]
  refine wpAny_bind (listItems_at ho' hd ?_)
  refine wpAny_bind (listItems_at (xs := #[]) (n := 0) (Heap.get?_push_size _ rfl) rfl ?_)
  rw [if_neg (by simp)]
  refine wpAny_bind (listUpdate_at (xs := #[]) (n := 0) (Heap.get?_push_size _ rfl) rfl ?_ (Nat.zero_le _) (by show (#[] ++ vs.toArray).size ≤ sizeLine + 1; simp only [Array.size_append, List.size_toArray, List.length_nil]; omega))
  refine wpAny_pure ?_
  show wpAny (model prog w) A (do
      let o ← load s.heap.objs.size
      match o.data with
      | .seq xs _ => pure xs.toList
      | _ => unsupported "internal:collect") Q E { s with heap := (s.heap.push (seqObj "list" #[] 0)).update s.heap.objs.size (Obj.mapSeq (· ++ vs.toArray)) }
  refine wpAny_bind (wpAny_load (get?_update_seq (Heap.get?_push_size _ rfl) _) ?_)
  show wpAny _ _ (pure ((#[] : Array Value) ++ vs.toArray).toList) Q E _
  rw [show ((#[] : Array Value) ++ vs.toArray).toList = vs by simp]
  exact wpAny_pure h
theorem sorted_of_sort2 {l : Addr} {vs : List Value} {kw : List (Str × Value)} {Q : Value → Shared → Prop} (hl : s.heap.IsList l vs.toArray ∨ s.heap.IsTuple l vs.toArray) (hL : vs.length ≤ sizeLine) (ha1 : argsOk "sorted" ⟨[.ref l], kw⟩) (ha2 : ∀ x, argsOk "list.sort" ⟨[.ref x], kw⟩)
    (body : ∀ E' : Value → Shared → Prop, wpAny (model prog w) A.in1.in1 (Builtin.«list.sort» ⟨[.ref (s.heap.objs.size + 1)], kw⟩) (fun f s' => f = .done (.ret .none) ∧ Q (.ref (s.heap.objs.size + 1)) s') E' { s with heap := copyHeap s.heap vs }) :
    wpAny (model prog w) A (call (.builtin "sorted") [.ref l] kw) Q E s := by
  rcases hl with hl | hl
  · exact sorted_of_sort hl hL ha1 ha2 body
  refine call_function_entry_kw kind_sorted plain_sorted entry_sorted ha1 ?_
  unfold Builtin.«sorted»
  refine wpAny_bind (m := checkCount "sorted" 1 1 _) (wpAny_pure ?_)
  refine wpAny_bind (collect_tup hl ?_ hL)
  refine wpAny_bind (wpAny_newList ?_ hL)
  have hsz : ((s.heap.push (seqObj "list" #[] 0)).update s.heap.objs.size (Obj.mapSeq (· ++ vs.toArray))).objs.size = s.heap.objs.size + 1 := by
    rw [Heap.size_update, size_push']
  show wpAny _ _ _ _ _ { s with heap := copyHeap s.heap vs }
  rw [hsz]
  refine wpAny_bind (wpAny_holding (wpAny_call_entry_kw slot_list_sort ⟨_, copyHeap_at s.heap vs, rfl⟩ entry_list_sort ?body (ha2 _)))
  case body =>
    show wpAny (model prog w) A.in1.in1 (Builtin.«list.sort» ⟨[.ref (s.heap.objs.size + 1)], kw⟩) _ _ _
    refine wpAny_mono (body _) (fun f s' hf => ?_) fun _ _ e => e
    obtain ⟨rfl, hq⟩ := hf
    exact ⟨_, rfl, wpAny_pure ⟨_, rfl, hq⟩⟩
theorem sorted_data2 {β : Type} {vs : List Value} {bs : List β} {enc : β → PyData} {R : Value → β → Prop} {l : Addr} {Q : Value → Shared → Prop} (hl : s.heap.IsList l vs.toArray ∨ s.heap.IsTuple l vs.toArray) (e : EachIs R vs bs) (er : EachIs (fun v b => ∃ as, Reads s.heap v (enc b) as) vs bs) (hal : AllAlike (bs.map enc)) (hk : Sortable (bs.map enc)) (hL : bs.length ≤ sizeLine)
    (hu : ∀ b, b ∈ bs → A.units + 2 + (enc b).depth < cLine) (h : ∀ out, out.length = bs.length → EachIs R out (bs.mergeSort (dataLe false enc)) → Q (.ref (s.heap.objs.size + 1)) { s with heap := sortedAll s.heap vs (List.toArray out) }) :
    wpAny (model prog w) A (call (.builtin "sorted") [.ref l]) Q E s := by
  have er' : EachIs (fun v b => ∃ as, Reads (sortingHeap (copyHeap s.heap vs) (s.heap.objs.size + 1) vs) v (enc b) as) vs bs := er.mono fun _ _ ⟨as, r⟩ => ⟨as, PyProof.Rows.Reads.keeps (fun _ _ => sorting_copy_old) r⟩
  refine sorted_of_sort2 hl (by rw [e.length]; exact hL) (args_sorted1 _) (fun _ => args_list_sort _) fun _ => list_sort_vals (s := { s with heap := copyHeap s.heap vs }) (copyHeap_at s.heap vs) (SortsAt.data (s := { s with heap := sortingHeap (copyHeap s.heap vs) (s.heap.objs.size + 1) vs }) (each_map (R := fun v d => ∃ as, Reads (sortingHeap (copyHeap s.heap vs) (s.heap.objs.size + 1) vs) v d as) enc er') hal hk (bound_map hu)) (by rw [e.length]; exact hL) ⟨rfl, ?_⟩
  exact h _ (by rw [sortVals_length false rfl]; exact e.length) (sortVals_data false e er' hal)
end

/-! ### at the level of the walk -/
theorem each_vals : ∀ {xs : List V} {us : List Value} {ds : List PyData}, Vals xs us → xs.length = ds.length → EachIs (fun u (b : V × PyData) => RelV b.1 u) us (xs.zip ds)
  | [], _, _, .nil, _ => by exact .nil
  | x :: xs, u :: us, d :: ds, .cons r t, h => .cons r (each_vals t (by simpa using h))
  | _ :: _, _, [], _, h => absurd h (by simp)
theorem vals_each : ∀ {us : List Value} {bs : List (V × PyData)}, EachIs (fun u (b : V × PyData) => RelV b.1 u) us bs → Vals (bs.map Prod.fst) us
  | _, _, .nil => .nil
  | _, _, .cons r t => .cons r (vals_each t)
theorem dpall_len {K : PySem.W.Frag} {H : Hp} : ∀ {xs : List V} {ds : List PyData}, DpAll K H xs ds → xs.length = ds.length
  | _, _, .nil => rfl
  | _, _, .cons _ t => congrArg (· + 1) (dpall_len t)
theorem each_reads {h : Heap} : ∀ {us : List Value} {xs : List V} {ds : List PyData} {as : List Addr}, ReadsAll h us ds as → xs.length = ds.length → EachIs (fun u (b : V × PyData) => ∃ as, Reads h u b.2 as) us (xs.zip ds)
  | _, [], _, _, .nil, _ => .nil
  | _, x :: xs, _, _, .cons h1 h2, hl => .cons ⟨_, h1⟩ (each_reads h2 (by simpa using hl))
  | _, _ :: _, [], _, .nil, hl => absurd hl (by simp)
  | _, [], _ :: _, _, _, hl => absurd hl (by simp)
mutual
theorem Dp.up {K : PySem.W.Frag} {H H' : Hp} (x : Ex H H') : ∀ {v : V} {d : PyData}, Dp K H v d → Dp K H' v d
  | _, _, .non => .non
  | _, _, .bl b => .bl b
  | _, _, .int i => .int i
  | _, _, .str z => .str z
  | _, _, .lst h k => .lst (ex_l x h) (DpAll.up x k)
  | _, _, .tup h k => .tup (ex_t x h) (DpAll.up x k)
theorem DpAll.up {K : PySem.W.Frag} {H H' : Hp} (x : Ex H H') : ∀ {v : List V} {d : List PyData}, DpAll K H v d → DpAll K H' v d
  | _, _, .nil => .nil
  | _, _, .cons h k => .cons (Dp.up x h) (DpAll.up x k)
end
/-- sorted(xs), xs a list or a tuple of data -/
def rSortG (K : PySem.W.Frag) : List V → Hp → VK → Prop := fun vs H Q => ∃ (a : Addr) (xs : List V) (ds : List PyData), vs = [V.ref a] ∧ (SqL K H a xs ∨ SqT K H a xs) ∧ DpAll K H xs ds ∧ AllAlike ds ∧ Sortable ds ∧ (∀ d ∈ ds, d.depth ≤ 32) ∧
  ∀ p, H p = none → Q (.ref p) (upd H p (.lst (((xs.zip ds).mergeSort (dataLe false Prod.snd)).map Prod.fst)))
theorem map_snd_zip' {α β : Type} : ∀ {xs : List α} {ds : List β}, xs.length = ds.length → (xs.zip ds).map Prod.snd = ds
  | [], [], _ => rfl
  | _ :: _, _ :: _, h => congrArg _ (map_snd_zip' (by simpa using h))
theorem cr_sortG {X : Cx} (hu : X.A.units + 64 < cLine) : CallR X (.builtin "sorted") (rSortG X.K) := by
  intro pins s σ H vs us Q I r h
  obtain ⟨a, xs, ds, rfl, hs, hd, hal, hk, hdep, q⟩ := h
  obtain rfl := Vals.ref1 r
  obtain ⟨its, rv, hl, hz⟩ : ∃ its, Vals xs its ∧ (s.heap.IsList a its.toArray ∨ s.heap.IsTuple a its.toArray) ∧ xs.length ≤ sizeLine := by
    rcases hs with hs | hs
    · obtain ⟨its, rv, p, hz⟩ := I.list hs
      exact ⟨its, rv, .inl p.isList, hz⟩
    · obtain ⟨its, rv, p, hz⟩ := I.tuple hs
      exact ⟨its, rv, .inr p, hz⟩
  have hlen := dpall_len hd
  obtain ⟨as, hr⟩ := Dp.readsAll I ds _ its hd rv
  have esnd := map_snd_zip' hlen
  have hbl : (xs.zip ds).length = xs.length := by rw [List.length_zip]; omega
  refine sorted_data2 (bs := xs.zip ds) (enc := Prod.snd) hl (each_vals rv hlen) (each_reads hr hlen) (by rw [esnd]; exact hal) (by rw [esnd]; exact hk) (by rw [hbl]; exact hz) (fun b hb => ?_) fun out ho eo => ?_
  · have hb2 : b.2 ∈ ds := by rw [← esnd]; exact List.mem_map.mpr ⟨b, hb, rfl⟩
    have := hdep _ hb2
    omega
  · obtain ⟨ep, he'⟩ := sortedAll_at s.heap its out.toArray
    have hv := vals_each eo
    refine ⟨.ref _, upd H (s.heap.objs.size + 1) (.lst _), I.laid (t' := s.toks) (fun _ _ => sortedAll_old) (Nat.le_succ _) ⟨?_, out, ep, hv, he'⟩, rfl, q _ (I.hok.fresh (Nat.le_succ _))⟩
    rw [List.length_map, List.length_mergeSort, hbl]
    exact hz

section
variable {α β γ : Type} {K : PySem.W.Frag} {σ : L2.St} {H H' : Hp} {te ta tb tc : TE} {t u : TT} {e : Rl α} {f : Rl β} {g : Rl γ}
def leD {d : Nat} (E : Enc K e d) (k : α → PyData) : α → α → Bool := dataLe false k
theorem pd_zip {F : V → α → Prop} : ∀ {xs : List V} {l : List α}, Paired F xs l → ∀ p ∈ xs.zip l, F p.1 p.2
  | _, _, .nil, p, h => by cases h
  | _, _, .cons x t, p, h => by
    rcases List.mem_cons.mp h with e | h
    · rw [e]; exact x
    · exact pd_zip t p h
theorem pd_of {F : V → α → Prop} : ∀ {z : List (V × α)}, (∀ p ∈ z, F p.1 p.2) → Paired F (z.map Prod.fst) (z.map Prod.snd)
  | [], _ => .nil
  | p :: z, h => .cons (h p (List.mem_cons_self ..)) (pd_of fun q hq => h q (List.mem_cons_of_mem _ hq))
theorem map_fst_zip' {α β : Type} : ∀ {xs : List α} {ds : List β}, xs.length = ds.length → (xs.zip ds).map Prod.fst = xs
  | [], [], _ => rfl
  | _ :: _, _ :: _, h => congrArg _ (map_fst_zip' (by simpa using h))
/-- the values that stand for data, sorted by a key -/
theorem pd_sort {F : V → α → Prop} (k : α → PyData) {xs : List V} {l : List α} (h : Paired F xs l) :
    Paired F (((xs.zip (l.map k)).mergeSort (dataLe false Prod.snd)).map Prod.fst) (l.mergeSort (dataLe false k)) := by
  have hl := Paired.length h
  have e1 : xs.zip (l.map k) = (xs.zip l).map fun p => (p.1, k p.2) := by
    rw [List.zip_map_right]
    rfl
  have e2 : ((xs.zip l).map fun p => (p.1, k p.2)).mergeSort (dataLe false Prod.snd) = ((xs.zip l).mergeSort (dataLe false fun p => k p.2)).map fun p => (p.1, k p.2) :=
    (List.map_mergeSort (r := dataLe false fun p : V × α => k p.2) (s := dataLe false Prod.snd) (f := fun p : V × α => (p.1, k p.2)) (fun _ _ _ _ => rfl)).symm
  have e3 : l.mergeSort (dataLe false k) = ((xs.zip l).mergeSort (dataLe false fun p => k p.2)).map Prod.snd := by
    conv => lhs; rw [← map_snd_zip' hl]
    exact (List.map_mergeSort (r := dataLe false fun p : V × α => k p.2) (s := dataLe false k) (f := Prod.snd) (fun _ _ _ _ => rfl)).symm
  rw [e1, e2, e3, List.map_map]
  exact pd_of fun p hp => pd_zip h p ((List.mergeSort_perm _ _).mem_iff.mp hp)
theorem enc_alike {d : Nat} (E : Enc K e d) (hal : ∀ a b, alike (E.enc a) (E.enc b) = true) (l : List α) : AllAlike (l.map E.enc) := AllAlike.of hal
/-- sorted(l) -/
theorem v_sortL {d : Nat} (E : Enc K e d) {l : List α} (ha : EvV (dL e) ta σ H l) (hal : ∀ a b, alike (E.enc a) (E.enc b) = true) (hk : Sortable (l.map E.enc)) (hd : d ≤ 32 := by decide) : EvV (dL e) (tCB (rSortG K) (tCons ta tNil)) σ H (l.mergeSort (dataLe false E.enc)) := v_cb1 ha fun H2 v _ r1 Q q => by
  obtain ⟨p, xs, rfl, hp, hx, hl⟩ := r1
  refine ⟨p, xs, l.map E.enc, rfl, .inl (sq_of hp), enc_all E hx, AllAlike.of hal, hk, fun dd hdd => ?_, fun q' hq => ?_⟩
  · obtain ⟨a, _, rfl⟩ := List.mem_map.mp hdd
    exact Nat.le_trans (E.dep a) hd
  · exact q _ _ (Ex.new hq) ⟨q', _, rfl, upd_same, AllR.up (Ex.new hq) (pd_sort E.enc hx), by rw [List.length_mergeSort]; exact hl⟩
theorem v_sortT {d : Nat} (E : Enc K e d) {l : List α} (ha : EvV (dT e) ta σ H l) (hal : ∀ a b, alike (E.enc a) (E.enc b) = true) (hk : Sortable (l.map E.enc)) (hd : d ≤ 32 := by decide) : EvV (dL e) (tCB (rSortG K) (tCons ta tNil)) σ H (l.mergeSort (dataLe false E.enc)) := v_cb1 ha fun H2 v _ r1 Q q => by
  obtain ⟨p, xs, rfl, hp, hx, hl⟩ := r1
  refine ⟨p, xs, l.map E.enc, rfl, .inr (st_of hp), enc_all E hx, AllAlike.of hal, hk, fun dd hdd => ?_, fun q' hq => ?_⟩
  · obtain ⟨a, _, rfl⟩ := List.mem_map.mp hdd
    exact Nat.le_trans (E.dep a) hd
  · exact q _ _ (Ex.new hq) ⟨q', _, rfl, upd_same, AllR.up (Ex.new hq) (pd_sort E.enc hx), by rw [List.length_mergeSort]; exact hl⟩
end

/-! ### sorted by a def of the text -/
/-- an object of ours becomes tracked -/
theorem inv_adopt {X : Cx} {pins : List (Addr × Obj)} {σ : L2.St} {H : Hp} {s : Shared} {D : Addr} {o : HO} (I : Inv X pins σ H s) (hf : FpOk X pins H D) (new : ObjOk X.prog X.w (upd H D o) s.heap D o) : Inv X pins σ (upd H D o) s := by
  obtain ⟨f0, f1, f2, f3, f4, f5⟩ := hf
  refine ⟨I.ok, I.os, I.bare, ⟨I.base.keep, I.base.slot, fun b ob e n hx => ?_, I.base.there, fun b xs e => ?_, fun b ob u e => ?_, fun b ps e => ?_⟩, I.loc, I.cell, ?_, fun x c e => ?_, fun p hp => ?_, fun b u e => ?_, I.len⟩
  · have hbD : b ≠ D := fun z => by
      subst z
      rcases f3 with f3 | f3
      · exact hx f3
      · exact absurd (Nat.lt_of_lt_of_le (Heap.lt_size e) f3) (Nat.lt_irrefl _)
    rw [upd_ne hbD]
    exact I.base.free b ob e n hx
  · have q := I.base.tups b xs e
    rw [upd_ne (ne_of_none q f0)]
    exact q
  · have q := I.base.frzs b ob u e
    rw [upd_ne (ne_of_none q f0)]
    exact q
  · obtain ⟨more, q⟩ := I.base.tbls b ps e
    refine ⟨more, ?_⟩
    rw [upd_ne (ne_of_none q f0)]
    exact q
  · rw [upd_ne (Ne.symm f1)]
    exact I.free
  · rw [upd_ne (f4 x c e)]
    exact I.freeC x c e
  · obtain ⟨a1, a2, a3, a4, a5⟩ := I.pin p hp
    refine ⟨a1, ?_, a3, a4, a5⟩
    rw [upd_ne (f5 p hp)]
    exact a2
  · by_cases hb : b = D
    · subst hb
      rw [upd_same] at e
      cases e
      exact new
    · rw [upd_ne hb] at e
      exact (I.hok b u e).stay (fun c v _ q => q) (fun c q => by rw [upd_ne (ne_of_none q f0)]; exact q) fun c xs q => by rw [upd_ne (ne_of_none q f0)]; exact q
def freedO : Obj := { cls := .none, data := .freed }
theorem get_freed (h : Heap) (a : Addr) : (h.update a fun _ => freedO).get? a = none := by
  cases h
  simp only [Heap.update, Heap.get?, Array.getElem?_modify, if_true]
  split
  · rfl
  · rename_i h1
    cases hh : (Option.map (fun _ => freedO) _ : Option Obj) with
    | none => rfl
    | some o =>
      exfalso
      obtain ⟨_, _, e⟩ := Option.map_eq_some_iff.mp hh
      subst e
      exact h1 _ _ _ hh

/-- sorted(xs, key=f), f a def of the text: its promise sp tells the keys -/
def rSortK (K : PySem.W.Frag) (f : Addr) (sp : Sp) : List V → List V → Hp → VK → Prop := fun vs zs H Q => ∃ (a : Addr) (xs : List V) (ds : List PyData), vs = [V.ref a] ∧ zs = [V.ref f] ∧ (SqL K H a xs ∨ SqT K H a xs) ∧ xs.length = ds.length ∧ AllAlike ds ∧ Sortable ds ∧ (∀ d ∈ ds, d.depth ≤ 32) ∧
  (∀ p ∈ xs.zip ds, ∀ H', Ex H H' → ∀ Q' : VK, (∀ w H2, Ex H' H2 → Dp K H2 w p.2 → Q' w H2) → sp [p.1] H' Q' E0) ∧
  ∀ p H', H p = none → Ex H H' → H' p = some (.lst (((xs.zip ds).mergeSort (dataLe false Prod.snd)).map Prod.fst)) → Q (.ref p) H'
theorem reads_each {h : Heap} : ∀ {us : List Value} {ds : List PyData} {as : List Addr}, ReadsAll h us ds as → EachIs (fun v k => ∃ as, Reads h v k as) us ds
  | _, _, _, .nil => .nil
  | _, _, _, .cons h1 h2 => .cons ⟨_, h1⟩ (reads_each h2)
theorem dpall_snoc {K : PySem.W.Frag} {H : Hp} {w : V} {d : PyData} : ∀ {kv : List V} {ds : List PyData}, DpAll K H kv ds → Dp K H w d → DpAll K H (kv ++ [w]) (ds ++ [d])
  | _, _, .nil, h => .cons h .nil
  | _, _, .cons a b, h => .cons a (dpall_snoc b h)
theorem vals_snoc {kv : List V} {ku : List Value} {w : V} {v : Value} (h : Vals kv ku) (r : RelV w v) : Vals (kv ++ [w]) (ku ++ [v]) := h.append (.cons r .nil)
theorem cr_sortK {X : Cx} {k : Nat} {f : Addr} {fd : FuncData} {ps : List Str} {sp : Sp} (F : FnOk X.prog X.w X.K X.mg X.base CX0 k f fd ps sp) (hb : Binds X.K fd ps []) (hr : Room (k + 2) X.A) : CallRK X (.builtin "sorted") [Str.ofString "key"] (rSortK X.K f sp) := by
  intro pins s σ H vs zs us ws Q I r rz h
  obtain ⟨a, xs, ds, rfl, rfl, hs, hlen, hal, hk, hdep, hkey, q⟩ := h
  obtain rfl := Vals.ref1 r
  obtain rfl := Vals.ref1 rz
  obtain ⟨its, rv, hl, hz⟩ : ∃ its, Vals xs its ∧ (s.heap.IsList a its.toArray ∨ s.heap.IsTuple a its.toArray) ∧ xs.length ≤ sizeLine := by
    rcases hs with hs | hs
    · obtain ⟨its, rv, p, hz⟩ := I.list hs
      exact ⟨its, rv, .inl p.isList, hz⟩
    · obtain ⟨its, rv, p, hz⟩ := I.tuple hs
      exact ⟨its, rv, .inr p, hz⟩
  have hil : its.length = xs.length := rv.length.symm
  have esnd := map_snd_zip' hlen
  have hbl : (xs.zip ds).length = xs.length := by rw [List.length_zip]; omega
  have hZ : its.length ≤ sizeLine := by omega
  have hu : ∀ d, d ∈ ds → X.A.in1.in1.units + d.depth < cLine := fun d hd => by
    have h1 := hdep d hd
    have h2 := hr.units
    show X.A.units + 2 + d.depth < cLine
    omega
  refine sorted_of_sort2 hl hZ (ksk_s1 _ _) (fun _ => ksk_l1 _ _) fun E' => ?_
  show wpAny _ _ (Builtin.«list.sort» ⟨[.ref (s.heap.objs.size + 1)], [(Str.ofString "key", .ref f)]⟩) _ _ _
  rw [ksk_t1]
  -- the list of the call: D; the keys' list: kS
  generalize hD : s.heap.objs.size + 1 = D
  have ho : (copyHeap s.heap its).get? D = some (seqObj "list" its.toArray 0) := by rw [← hD]; exact copyHeap_at s.heap its
  obtain ⟨e1, ho1⟩ : ∃ e1, ((copyHeap s.heap its).update D (Obj.mapSeq fun _ => (#[] : Array Value))).get? D = some (seqObj "list" #[] e1) := ⟨_, get?_update_seq ho fun _ => #[]⟩
  have hDlt : D < (copyHeap s.heap its).objs.size := Heap.lt_size ho
  unfold ksk_tree
  refine wpAny_bind (listItems_at ho rfl ?_)
  refine wpAny_bind (listUpdate_at ho rfl ?_ (by rw [List.size_toArray]; exact hZ) (Nat.zero_le _))
  refine wpAny_bind (seqEpoch_at ho1 rfl ?_)
  refine wpAny_bind (wpAny_newTuple ?_ (by show its.length ≤ _; exact hZ))
  refine wpAny_bind (wpAny_newList ?_ (Nat.zero_le _))
  refine wpAny_holding ?_
  have hkSz : (((copyHeap s.heap its).update D (Obj.mapSeq fun _ => (#[] : Array Value))).push (seqObj "tuple" its.toArray 0)).objs.size = (copyHeap s.heap its).objs.size + 1 := by rw [size_push', Heap.size_update]
  have nk0 : ((((copyHeap s.heap its).update D (Obj.mapSeq fun _ => (#[] : Array Value))).push (seqObj "tuple" its.toArray 0)).push (seqObj "list" #[] 0)).get? (((copyHeap s.heap its).update D (Obj.mapSeq fun _ => (#[] : Array Value))).push (seqObj "tuple" its.toArray 0)).objs.size = some (seqObj "list" #[] 0) := Heap.get?_push_size _ rfl
  have na0 : ((((copyHeap s.heap its).update D (Obj.mapSeq fun _ => (#[] : Array Value))).push (seqObj "tuple" its.toArray 0)).push (seqObj "list" #[] 0)).get? D = some (seqObj "list" #[] e1) := Heap.get?_push_of_some _ (Heap.get?_push_of_some _ ho1)
  have kp0 : ∀ b o, s.heap.get? b = some o → ((((copyHeap s.heap its).update D (Obj.mapSeq fun _ => (#[] : Array Value))).push (seqObj "tuple" its.toArray 0)).push (seqObj "list" #[] 0)).get? b = some o := fun b o e => by
    have hlt := Heap.lt_size e
    exact sortingHeap_old (a := D) (by rw [← hD]; exact Nat.ne_of_lt (Nat.lt_succ_of_lt hlt)) (copyHeap_old e)
  show wpAny _ _ (ksk_rest D (.ref f) false its.toArray e1 (.ref (((copyHeap s.heap its).update D (Obj.mapSeq fun _ => (#[] : Array Value))).push (seqObj "tuple" its.toArray 0)).objs.size)) _ _ { s with heap := (((copyHeap s.heap its).update D (Obj.mapSeq fun _ => (#[] : Array Value))).push (seqObj "tuple" its.toArray 0)).push (seqObj "list" #[] 0) }
  rw [hkSz] at nk0 ⊢
  generalize hkS : (copyHeap s.heap its).objs.size + 1 = kS at nk0 ⊢
  have hka : kS ≠ D := by rw [← hkS]; exact Nat.ne_of_gt (Nat.lt_succ_of_lt hDlt)
  have hszD : s.heap.objs.size ≤ D := by rw [← hD]; exact Nat.le_succ _
  have hszk : s.heap.objs.size ≤ kS := by rw [← hkS]; exact Nat.le_trans hszD (Nat.le_succ_of_le (Nat.le_of_lt hDlt))
  generalize (((copyHeap s.heap its).update D (Obj.mapSeq fun _ => (#[] : Array Value))).push (seqObj "tuple" its.toArray 0)).push (seqObj "list" #[] 0) = h0 at nk0 na0 kp0 ⊢
  have nD0 := I.hok.fresh hszD
  have nk00 := I.hok.fresh hszk
  have fD : FpOk X pins H D := I.fpOk hszD nD0
  have fk : FpOk X pins H kS := I.fpOk hszk nk00
  have I0 : Inv X pins σ H { s with heap := h0 } := I.kept (t' := s.toks) kp0
  have pinD : ∀ {Hi : Hp} {h : Heap} {kA : Array Value} {e : Nat}, Hi D = none → Hi kS = none → h.get? kS = some (seqObj "list" kA e) → h.get? D = some (seqObj "list" #[] e1) →
      ∀ p ∈ pins ++ [(kS, seqObj "list" kA e), (D, seqObj "list" #[] e1)], p ∈ pins ∨ (h.get? p.1 = some p.2 ∧ Hi p.1 = none ∧ p.1 ≠ X.env.locals ∧ p.1 ∉ X.fs ∧ ∀ v, p.2.data ≠ .cell v) := by
    intro Hi h kA e n1 n2 g1 g2 p hp
    rcases List.mem_append.mp hp with z | z
    · exact .inl z
    · right
      rcases List.mem_cons.mp z with z | z
      · subst z
        exact ⟨g1, n2, fk.2.1, fk.2.2.1, fun v q => nomatch q⟩
      · obtain rfl := List.mem_singleton.mp z
        exact ⟨g2, n1, fD.2.1, fD.2.2.1, fun v q => nomatch q⟩
  unfold ksk_rest
  refine wpAny_bind (wpAny_rule ?_)
  first
    | rw [List.forIn_toArray]
    | (rw [← Array.forIn_toList]; simp only [List.toList_toArray])
    | rw [← Array.forIn_toList]
  refine wpAny_bind (ksk_fold (fun i s' => ∃ Hi kA e kv, Inv X (pins ++ [(kS, seqObj "list" kA e), (D, seqObj "list" #[] e1)]) σ Hi s' ∧ Ex H Hi ∧ Vals kv kA.toList ∧ DpAll X.K Hi kv (ds.take i)) its 0 _
    ⟨H, #[], 0, [], I0.pins_of fun p hp => (pinD nD0 nk00 nk0 na0 p hp).elim (fun z => I0.pin p (List.mem_append_right _ z)) id, Ex.refl H, by exact .nil, by rw [List.take_zero]; exact .nil⟩ ?step ?done)
  case step =>
    rintro j u s' hx ⟨Hi, kA, e, kv, I1, x1, rk, hdk⟩
    simp only [Nat.zero_add] at hdk ⊢
    have hj : j < its.length := (List.getElem?_eq_some_iff.mp hx).1
    obtain ⟨v, hv, rvu⟩ := pd_get' rv hx
    obtain ⟨d, hd⟩ : ∃ d, ds[j]? = some d := ⟨_, List.getElem?_eq_getElem (by omega)⟩
    have hp : (v, d) ∈ xs.zip ds := List.mem_of_getElem? (i := j) (by rw [List.getElem?_zip_eq_some]; exact ⟨hv, hd⟩)
    have hspec := hkey (v, d) hp Hi x1 (fun w H2 => Ex Hi H2 ∧ Dp X.K H2 w d) (fun w H2 x2 dw => ⟨x2, dw⟩)
    have hps : ps.length = 1 := (F.len _ _ _ _ hspec).symm
    have call1 : wpAny (model X.prog X.w) X.A.in1.in1 (call (.ref f) [u]) (fun v' s'' => ∃ w H2, Inv X (pins ++ [(kS, seqObj "list" kA e), (D, seqObj "list" #[] e1)]) σ H2 s'' ∧ RelV w v' ∧ Ex Hi H2 ∧ Dp X.K H2 w d) (fun _ _ => False) s' := by
      refine wpAny_call (codeAny_mono (F.run X.A.in1.in1 X.stack s' Hi ⟨[u], []⟩ [u] [v] _ E0 hr.in1.in1 I1.env0.in1.in1 (by have := hb s' [u] I1.kIn (by simpa using hps.symm); simpa using this) (.cons rvu .nil) hspec) fun r s'' hq => ?_)
      cases r with
      | error e => exact hq.elim
      | ok fl =>
        cases fl with
        | ret u' =>
          obtain ⟨w, H2, I2, rw', x2, dw⟩ := I1.after hq
          exact ⟨w, H2, I2, rw', x2, dw⟩
        | next => exact False.elim hq
        | brk => exact False.elim hq
        | cont => exact False.elim hq
    refine wpAny_bind (wpAny_attempt (wpAny_mono call1 (fun v' s'' he => ?_) fun _ _ hF => hF.elim))
    obtain ⟨w, H2, I2, rw', x2, dw⟩ := he
    try dsimp only
    have pk := I2.pin (kS, seqObj "list" kA e) (List.mem_append_right _ (List.mem_append_right _ (.head _)))
    have pD := I2.pin (D, seqObj "list" #[] e1) (List.mem_append_right _ (List.mem_append_right _ (.tail _ (.head _))))
    have kl : kA.size ≤ its.length := by
      have h1 : kv.length = kA.size := (Vals.length rk).trans Array.length_toList
      have h2 : kv.length = (ds.take j).length := dpall_len hdk
      rw [List.length_take] at h2
      have h3 : kA.size ≤ j := by rw [← h1, h2]; exact Nat.min_le_left _ _
      exact Nat.le_trans h3 (Nat.le_of_lt hj)
    have s1 := Heap.SameBut.update s''.heap kS (Obj.mapSeq (·.push v'))
    obtain ⟨c2, hc2⟩ : ∃ c2, (s''.heap.update kS (Obj.mapSeq (·.push v'))).get? kS = some (seqObj "list" (kA.push v') c2) := ⟨_, get?_update_seq pk.1 (·.push v')⟩
    refine wpAny_bind (listUpdate_at pk.1 rfl ?_ (Nat.le_trans kl hZ) (Nat.le_trans (Nat.le_of_eq (Array.size_push ..)) (Nat.succ_le_succ (Nat.le_trans kl hZ))))
    have fk2 : FpOk X pins H2 kS := ⟨pk.2.1, fk.2.1, fk.2.2.1, fk.2.2.2.1, fk.2.2.2.2.1, fk.2.2.2.2.2⟩
    have I3 : Inv X pins σ H2 { s'' with heap := s''.heap.update kS (Obj.mapSeq (·.push v')) } := (I2.unpinned).turnedL (t' := s''.toks) (ch := [kS]) (fun b o hbn q => (s1.2 b (fun z => hbn (by simp [z]))).trans q) fun b hbm => by
      obtain rfl := List.mem_singleton.mp hbm
      exact fk2
    refine wpAny_pure ⟨rfl, H2, kA.push v', c2, kv ++ [w], I3.pins_of fun p hp => (pinD pD.2.1 pk.2.1 hc2 ((s1.2 D hka.symm).trans pD.1) p hp).elim (fun z => I3.pin p (List.mem_append_right _ z)) id, x1.trans x2, ?_, ?_⟩
    · have ea : (kA.push v').toList = kA.toList ++ [v'] := by simp
      rw [ea]
      exact vals_snoc rk rw'
    · have ek : ds.take (j + 1) = ds.take j ++ [d] := by rw [List.take_add_one, hd]; rfl
      rw [ek]
      exact dpall_snoc (DpAll.up x2 hdk) dw
  case done =>
    rintro s' ⟨Hi, kA, e, kv, I1, x1, rk, hdk⟩
    have e3 : ds.take (0 + its.length) = ds := List.take_of_length_le (by omega)
    rw [e3] at hdk
    have pk := I1.pin (kS, seqObj "list" kA e) (List.mem_append_right _ (List.mem_append_right _ (.head _)))
    have pD := I1.pin (D, seqObj "list" #[] e1) (List.mem_append_right _ (List.mem_append_right _ (.tail _ (.head _))))
    obtain ⟨as, hR⟩ := Dp.readsAll I1 ds kv kA.toList hdk rk
    have hk' : EachIs (fun v k => ∃ as, Reads s'.heap v k as) kA.toList ds := reads_each hR
    have hsz : kA.size = its.length := by
      have h1 := hk'.length
      rw [Array.length_toList] at h1
      omega
    try dsimp only
    refine wpAny_bind (listItems_at pk.1 rfl ?_)
    refine keyH_end (κ := dataKind s'.heap ds) (h₁ := s'.heap.update kS fun _ => freedO) (fun b o hbD e => ?_) (get_freed _ _) pk.1 pD.1 hka (SortsAt.data (s := s') hk' hal hk hu) hsz hZ fun h3 tk3 c k3 n3 => ⟨rfl, ?_⟩
    · by_cases hbk : b = kS
      · subst hbk
        rw [get_freed] at e
        cases e
      · rw [Heap.get?_update_ne _ _ _ _ hbk] at e
        exact e
    · have ko : KeyedOut false ds its (sortVals (dataKind s'.heap ds) false kA.toList its) := ⟨s'.heap, kA.toList, hal, rfl, hk'⟩
      have eo : EachIs (fun u (b : V × PyData) => RelV b.1 u) (sortVals (dataKind s'.heap ds) false kA.toList its) ((xs.zip ds).mergeSort (dataLe false Prod.snd)) :=
        keyedOut_each (bs := xs.zip ds) Prod.snd (by rw [esnd]; exact ko) (each_vals rv hlen)
      have kall : ∀ b o, b ∉ [kS, D] → s'.heap.get? b = some o → h3.get? b = some o := fun b o hbn e => k3 b o (fun z => hbn (by simp [z])) (by rw [Heap.get?_update_ne _ _ _ _ (fun z => hbn (by simp [z]))]; exact e)
      have fk2 : FpOk X pins Hi kS := ⟨pk.2.1, fk.2.1, fk.2.2.1, fk.2.2.2.1, fk.2.2.2.2.1, fk.2.2.2.2.2⟩
      have fD2 : FpOk X pins Hi D := ⟨pD.2.1, fD.2.1, fD.2.2.1, fD.2.2.2.1, fD.2.2.2.2.1, fD.2.2.2.2.2⟩
      have I4 : Inv X pins σ Hi { s' with heap := h3, toks := tk3 } := (I1.unpinned).turnedL (t' := tk3) (ch := [kS, D]) kall fun b hbm => by
        rcases List.mem_cons.mp hbm with z | z
        · rw [z]; exact fk2
        · rw [List.mem_singleton.mp z]; exact fD2
      have hv := vals_each eo
      have I5 : Inv X pins σ (upd Hi D (.lst (((xs.zip ds).mergeSort (dataLe false Prod.snd)).map Prod.fst))) { s' with heap := h3, toks := tk3 } := inv_adopt I4 fD2 ⟨by rw [List.length_map, List.length_mergeSort, hbl]; exact hz, _, c, hv, n3⟩
      exact ⟨.ref D, _, I5, rfl, q D _ nD0 (x1.trans (Ex.new pD.2.1)) upd_same⟩
end Ow
-- OwL5
/-! The layer 5: what is walked as pairs; sets; max and min of lists and tuples. -/
namespace Ow
open PySem PySem.Spec PyProof.Rows PySem.W L2 Evl

section
variable {α β γ : Type} {K : PySem.W.Frag} {σ : L2.St} {H H' : Hp} {te ta tb tc : TE} {t u : TT} {e : Rl α} {f : Rl β} {g : Rl γ}
/-! ### enumerate, zip -/
def enumI (l : List α) : List (Int × α) := l.zipIdx.map fun p => (((p.2 : Nat) : Int), p.1)
theorem enumI_len (l : List α) : (enumI l).length = l.length := by
  unfold enumI
  rw [List.length_map, List.length_zipIdx]
theorem enumI_get {l : List α} {i : Nat} {a : α} (h : l[i]? = some a) : (enumI l)[i]? = some (((i : Nat) : Int), a) := by
  unfold enumI
  rw [List.getElem?_map, List.getElem?_zipIdx, h]
  simp
theorem wk_enumL {p : Addr} {xs : List V} {l : List α} (hq : SqL K H p xs) (ha : AllR e H xs l) : Wk (dP dI e) (Ite K p) (enumI l) H := fun H' x => by
  have el : l.length = xs.length := (Paired.length ha).symm
  rw [enumI_len]
  refine ⟨fun i hi => ⟨xs, xs[i]'(by omega), ex_l x hq, List.getElem?_eq_getElem (by omega)⟩, ⟨xs, ex_l x hq, by omega⟩, fun i y H'' hi yl => ?_⟩
  obtain ⟨T, v, rfl, hT, rfl, hv⟩ := yl
  obtain ⟨a, h3, h4⟩ := pd_get ha (hv xs (ex_l x hq))
  exact ⟨Ex.new hT, _, enumI_get h3, T, .int i, v, rfl, upd_same, rfl, e.up (x.trans (Ex.new hT)) h4⟩
theorem wk_enumT {p : Addr} {xs : List V} {l : List α} (hq : SqT K H p xs) (ha : AllR e H xs l) : Wk (dP dI e) (IteT K p) (enumI l) H := fun H' x => by
  have el : l.length = xs.length := (Paired.length ha).symm
  rw [enumI_len]
  refine ⟨fun i hi => ⟨xs, xs[i]'(by omega), ex_t x hq, List.getElem?_eq_getElem (by omega)⟩, ⟨xs, ex_t x hq, by omega⟩, fun i y H'' hi yl => ?_⟩
  obtain ⟨T, v, rfl, hT, rfl, hv⟩ := yl
  obtain ⟨a, h3, h4⟩ := pd_get ha (hv xs (ex_t x hq))
  exact ⟨Ex.new hT, _, enumI_get h3, T, .int i, v, rfl, upd_same, rfl, e.up (x.trans (Ex.new hT)) h4⟩
theorem s_enumL {l : List α} (h : EvV (dL e) te σ H l) : Src (dP dI e) (iEnum K (tCons te tNil)) σ H (enumI l) := fun H1 x R q => h H1 x _ fun v H2 x2 ⟨p, xs, e1, hq, ha, _⟩ => ⟨p, xs, by rw [e1], sq_of hq, q _ H2 x2 (wk_enumL (sq_of hq) ha)⟩
theorem s_enumT {l : List α} (h : EvV (dT e) te σ H l) : Src (dP dI e) (iEnumT K (tCons te tNil)) σ H (enumI l) := fun H1 x R q => h H1 x _ fun v H2 x2 ⟨p, xs, e1, hq, ha, _⟩ => ⟨p, xs, by rw [e1], st_of hq, q _ H2 x2 (wk_enumT (st_of hq) ha)⟩
theorem zip_get {l : List α} {m : List β} {i : Nat} {a : α} {b : β} (h1 : l[i]? = some a) (h2 : m[i]? = some b) : (l.zip m)[i]? = some (a, b) := by
  rw [List.getElem?_zip_eq_some]
  exact ⟨h1, h2⟩
theorem wk_zipT {p p' : Addr} {xs ys : List V} {l : List α} {m : List β} (hq : SqT K H p xs) (hq' : SqT K H p' ys) (ha : AllR e H xs l) (hb : AllR f H ys m) : Wk (dP e f) (RZ.ItzT K p p') (l.zip m) H := fun H' x => by
  have el : l.length = xs.length := (Paired.length ha).symm
  have em : m.length = ys.length := (Paired.length hb).symm
  rw [List.length_zip]
  refine ⟨fun i hi => ⟨xs, ys, xs[i]'(by omega), ys[i]'(by omega), ex_t x hq, ex_t x hq', List.getElem?_eq_getElem (by omega), List.getElem?_eq_getElem (by omega)⟩, ⟨xs, ys, ex_t x hq, ex_t x hq', by omega⟩, fun i y H'' hi yl => ?_⟩
  obtain ⟨T, v, w, rfl, hT, rfl, hv, hw⟩ := yl
  obtain ⟨a, h3, h4⟩ := pd_get ha (hv xs (ex_t x hq))
  obtain ⟨b, h5, h6⟩ := pd_get hb (hw ys (ex_t x hq'))
  exact ⟨Ex.new hT, _, zip_get h3 h5, T, v, w, rfl, upd_same, e.up (x.trans (Ex.new hT)) h4, f.up (x.trans (Ex.new hT)) h6⟩
theorem wk_zipM {p p' : Addr} {xs ys : List V} {l : List α} {m : List β} (hq : SqT K H p xs) (hq' : SqL K H p' ys) (ha : AllR e H xs l) (hb : AllR f H ys m) : Wk (dP e f) (ItzM K p p') (l.zip m) H := fun H' x => by
  have el : l.length = xs.length := (Paired.length ha).symm
  have em : m.length = ys.length := (Paired.length hb).symm
  rw [List.length_zip]
  refine ⟨fun i hi => ⟨xs, ys, xs[i]'(by omega), ys[i]'(by omega), ex_t x hq, ex_l x hq', List.getElem?_eq_getElem (by omega), List.getElem?_eq_getElem (by omega)⟩, ⟨xs, ys, ex_t x hq, ex_l x hq', by omega, by omega, by omega⟩, fun i y H'' hi yl => ?_⟩
  obtain ⟨T, v, w, rfl, hT, rfl, hv, hw⟩ := yl
  obtain ⟨a, h3, h4⟩ := pd_get ha (hv xs (ex_t x hq))
  obtain ⟨b, h5, h6⟩ := pd_get hb (hw ys (ex_l x hq'))
  exact ⟨Ex.new hT, _, zip_get h3 h5, T, v, w, rfl, upd_same, e.up (x.trans (Ex.new hT)) h4, f.up (x.trans (Ex.new hT)) h6⟩
theorem s_zipT {l : List α} {m : List β} (h : EvV (dT e) ta σ H l) (h' : EvV (dT f) tb σ H m) : Src (dP e f) (RZ.iZipA K (tCons ta (tCons tb tNil))) σ H (l.zip m) := fun H1 x R q =>
  h H1 x _ fun v H2 x2 ⟨p, xs, e1, hq, ha, _⟩ => h' H2 (x.trans x2) _ fun w H3 x3 ⟨p', ys, e2, hq', hb, _⟩ => ⟨p, p', xs, ys, by rw [e1, e2], .inr ⟨st_of (x3 _ _ hq), st_of hq', q _ H3 (x2.trans x3) (wk_zipT (st_of (x3 _ _ hq)) (st_of hq') (AllR.up x3 ha) hb)⟩⟩
theorem s_zipM {l : List α} {m : List β} (h : EvV (dT e) ta σ H l) (h' : EvV (dL f) tb σ H m) : Src (dP e f) (iZipM K (tCons ta (tCons tb tNil))) σ H (l.zip m) := fun H1 x R q =>
  h H1 x _ fun v H2 x2 ⟨p, xs, e1, hq, ha, _⟩ => h' H2 (x.trans x2) _ fun w H3 x3 ⟨p', ys, e2, hq', hb, _⟩ => ⟨p, p', xs, ys, by rw [e1, e2], st_of (x3 _ _ hq), sq_of hq', q _ H3 (x2.trans x3) (wk_zipM (st_of (x3 _ _ hq)) (sq_of hq') (AllR.up x3 ha) hb)⟩
end

/-! ### max, min of a list or a tuple of ints -/
def rMaxU (K : PySem.W.Frag) : List V → Hp → VK → Prop := fun vs H Q => ∃ (a : Addr) (ns : List Int), vs = [V.ref a] ∧ (SqL K H a (ns.map V.int) ∨ SqT K H a (ns.map V.int)) ∧ 0 < ns.length ∧ ∀ m, IsGreat ns m → Q (.int m) H
def rMinU (K : PySem.W.Frag) : List V → Hp → VK → Prop := fun vs H Q => ∃ (a : Addr) (ns : List Int), vs = [V.ref a] ∧ (SqL K H a (ns.map V.int) ∨ SqT K H a (ns.map V.int)) ∧ 0 < ns.length ∧ ∀ m, IsLeast ns m → Q (.int m) H
theorem holdall_ints {h : Heap} : ∀ {ns : List Int} {us : List Value}, Vals (ns.map V.int) us → HoldAll h us ns
  | [], _, .nil => HoldAll.nil
  | n :: ns, _, .cons r t => by
    obtain ⟨k, rfl⟩ := r
    exact HoldAll.cons ⟨_, .int n k⟩ (holdall_ints t)
theorem holds_int_inv {h : Heap} {v : Value} {n : Int} (H : Holds h v n) : ∃ t, v = .int n t := by
  obtain ⟨as, r⟩ := H
  cases r
  exact ⟨_, rfl⟩
theorem maxOf_great (x : Int) (xs : List Int) : IsGreat (x :: xs) (maxOf x xs) := by
  unfold maxOf
  induction xs generalizing x with
  | nil => exact ⟨List.mem_singleton.mpr rfl, fun y hy => by rw [List.mem_singleton.mp hy]; exact Int.le_refl _⟩
  | cons y ys ih =>
    rw [List.foldl_cons]
    by_cases hc : x < y
    · have e : DatumOrd.lt x y = true := decide_eq_true hc
      rw [if_pos e]
      obtain ⟨h1, h2⟩ := ih y
      refine ⟨List.mem_cons_of_mem _ h1, fun z hz => ?_⟩
      rcases List.mem_cons.mp hz with rfl | hz
      · have := h2 y (List.mem_cons_self ..)
        omega
      · exact h2 z hz
    · have e : ¬ (DatumOrd.lt x y = true) := fun h => hc (of_decide_eq_true h)
      rw [if_neg e]
      obtain ⟨h1, h2⟩ := ih x
      refine ⟨?_, fun z hz => ?_⟩
      · rcases List.mem_cons.mp h1 with h1 | h1
        · rw [h1]; exact List.mem_cons_self ..
        · exact List.mem_cons_of_mem _ (List.mem_cons_of_mem _ h1)
      · have := h2 x (List.mem_cons_self ..)
        rcases List.mem_cons.mp hz with rfl | hz
        · exact this
        · rcases List.mem_cons.mp hz with rfl | hz
          · omega
          · exact h2 z (List.mem_cons_of_mem _ hz)
theorem minOf_least (x : Int) (xs : List Int) : IsLeast (x :: xs) (minOf x xs) := by
  unfold minOf
  induction xs generalizing x with
  | nil => exact ⟨List.mem_singleton.mpr rfl, fun y hy => by rw [List.mem_singleton.mp hy]; exact Int.le_refl _⟩
  | cons y ys ih =>
    rw [List.foldl_cons]
    by_cases hc : y < x
    · have e : DatumOrd.lt y x = true := decide_eq_true hc
      rw [if_pos e]
      obtain ⟨h1, h2⟩ := ih y
      refine ⟨List.mem_cons_of_mem _ h1, fun z hz => ?_⟩
      rcases List.mem_cons.mp hz with rfl | hz
      · have := h2 y (List.mem_cons_self ..)
        omega
      · exact h2 z hz
    · have e : ¬ (DatumOrd.lt y x = true) := fun h => hc (of_decide_eq_true h)
      rw [if_neg e]
      obtain ⟨h1, h2⟩ := ih x
      refine ⟨?_, fun z hz => ?_⟩
      · rcases List.mem_cons.mp h1 with h1 | h1
        · rw [h1]; exact List.mem_cons_self ..
        · exact List.mem_cons_of_mem _ (List.mem_cons_of_mem _ h1)
      · have := h2 x (List.mem_cons_self ..)
        rcases List.mem_cons.mp hz with rfl | hz
        · exact this
        · rcases List.mem_cons.mp hz with rfl | hz
          · omega
          · exact h2 z (List.mem_cons_of_mem _ hz)
section
variable {X : Cx}
theorem cr_maxU (hc : X.calm = true) (hu : X.A.units + 64 < cLine) : CallR X (.builtin "max") (rMaxU X.K) := by
  intro pins s σ H vs us Q I r h
  obtain ⟨a, ns, rfl, hs, hne, q⟩ := h
  rw [Vals.ref1 r]
  match ns, hne with
  | n :: ns, _ =>
  have hd : X.A.units + 1 + Datum.depth Int < cLine := by show X.A.units + 1 + 0 < cLine; omega
  rcases hs with hs | hs
  · obtain ⟨its, rv, hl, _⟩ := I.list hs
    refine max_list_datum (I.ok.hd hc) hl.isList (x := n) (xs := ns) (by simpa using holdall_ints (h := s.heap) rv) hd fun i v h' tk _ hv hk => ?_
    obtain ⟨t, rfl⟩ := holds_int_inv hv
    exact ⟨.int _, H, I.kept hk, ⟨t, rfl⟩, q _ (maxOf_great n ns)⟩
  · obtain ⟨its, rv, hl, _⟩ := I.tuple hs
    refine max_tuple_datum (I.ok.hd hc) (show s.heap.IsTuple a its.toArray from hl) (x := n) (xs := ns) (by simpa using holdall_ints (h := s.heap) rv) hd fun i v h' tk _ hv hk => ?_
    obtain ⟨t, rfl⟩ := holds_int_inv hv
    exact ⟨.int _, H, I.kept hk, ⟨t, rfl⟩, q _ (maxOf_great n ns)⟩
theorem cr_minU (hc : X.calm = true) (hu : X.A.units + 64 < cLine) : CallR X (.builtin "min") (rMinU X.K) := by
  intro pins s σ H vs us Q I r h
  obtain ⟨a, ns, rfl, hs, hne, q⟩ := h
  rw [Vals.ref1 r]
  match ns, hne with
  | n :: ns, _ =>
  have hd : X.A.units + 1 + Datum.depth Int < cLine := by show X.A.units + 1 + 0 < cLine; omega
  rcases hs with hs | hs
  · obtain ⟨its, rv, hl, _⟩ := I.list hs
    refine min_list_datum (I.ok.hd hc) hl.isList (x := n) (xs := ns) (by simpa using holdall_ints (h := s.heap) rv) hd fun i v h' tk _ hv hk => ?_
    obtain ⟨t, rfl⟩ := holds_int_inv hv
    exact ⟨.int _, H, I.kept hk, ⟨t, rfl⟩, q _ (minOf_least n ns)⟩
  · obtain ⟨its, rv, hl, _⟩ := I.tuple hs
    refine min_tuple_datum (I.ok.hd hc) (show s.heap.IsTuple a its.toArray from hl) (x := n) (xs := ns) (by simpa using holdall_ints (h := s.heap) rv) hd fun i v h' tk _ hv hk => ?_
    obtain ⟨t, rfl⟩ := holds_int_inv hv
    exact ⟨.int _, H, I.kept hk, ⟨t, rfl⟩, q _ (minOf_least n ns)⟩
end

/-! ### set of a list of ints -/
section
variable {P : Program} {w : World} {A : Around} {E : Value → Shared → Prop} {s : Shared}
set_option maxHeartbeats 8000000 in
theorem call_set_listI {l : Addr} {items : Array Value} (ns : List Int) {Q : Value → Shared → Prop} (hh : A.handled = none) (hl : s.heap.IsList l items) (hit : IntsAre items.toList ns) (hb : ns.length + 1 < scanBound)
    (h : ∀ (h' : Heap) (tk c : Nat), SetR w h' s.heap.objs.size (fun j => decide (j ∈ ns)) c → c ≤ ns.length → (∀ b o, s.heap.get? b = some o → h'.get? b = some o) → Q (.ref s.heap.objs.size) { s with heap := h', toks := tk }) :
    wpAny (model P w) A (call (.type "set") [.ref l]) Q E s := by
  have hisz : items.size = ns.length := by
    have q := IntsAre.length hit
    rw [Array.length_toList] at q
    exact q
  obtain ⟨c, tl, hmro⟩ := F.called_set.mro
  have hmade := F.called_set.made
  have hsub := F.called_set.sub
  refine wpAny_call (codeAny_of_tree ?_)
  show wpAny _ _ (callAny (.type "set") _) _ _ _
  refine wpAny_pure ⟨Code.quiet_builtin _ (by decide +kernel), codeAny_builtin F.entry_type_call ?_⟩
  rw [Around.under_plain (weight_type_call_type "set" [.ref l] []) rfl]
  have h1 := F.called_set.notType
  have h2 := F.called_set.canCreate
  have hct := F.typeCall_set_1 (.ref l)
  repeat (any_goals (first | assumption | wp_step))
  refine codeAny_mono (code_set_led1 (.ref l) (E := E) (Q₁ := fun obj s₁ => obj = .ref s.heap.objs.size ∧ s₁ = { s with heap := s.heap.push { cls := .type "set", dict := none, data := .set #[] 0 (.fresh 0 0 (!w.params.followText "set-order")) } }) ⟨rfl, rfl⟩) fun r s₁ hr => ?_
  cases r with
  | error e => exact hr
  | ok fl =>
    cases fl with
    | ret obj =>
      obtain ⟨rfl, rfl⟩ := hr
      have hS : (s.heap.push { cls := .type "set", dict := none, data := .set #[] 0 (.fresh 0 0 (!w.params.followText "set-order")) }).get? s.heap.objs.size = some { cls := .type "set", dict := none, data := .set #[] 0 (.fresh 0 0 (!w.params.followText "set-order")) } := Heap.get?_push_size _ rfl
      have hT : Shared.TypeIs { s with heap := s.heap.push { cls := .type "set", dict := none, data := .set #[] 0 (.fresh 0 0 (!w.params.followText "set-order")) } } (.ref s.heap.objs.size) "set" := ⟨_, hS, rfl⟩
      have hli := F.called_set.init.lookup
      have hbi := F.called_set.init.bind (.ref s.heap.objs.size)
      repeat (any_goals (first | assumption | wp_step))
      refine codeAny_mono (codeAny_call_builtin (R := wants (fun r s₂ => r = .none ∧ ∃ h' tk c, s₂ = { s with heap := h', toks := tk } ∧ SetR w h' s.heap.objs.size (fun j => decide (j ∈ ns)) c ∧ c ≤ ns.length ∧
          (∀ b o, s.heap.get? b = some o → h'.get? b = some o)) E) F.called_set.init.plain F.entry_set_init (check_set_init_1 hT ?_)) fun r₂ s₂ hr₂ => ?_
      · obtain ⟨ol, hol, hcl, nl, hdl⟩ := hl
        obtain ⟨ocls, odict, odata, oslots⟩ := ol
        simp only at hcl hdl
        subst hcl; subst hdl
        have hol' : (s.heap.push { cls := .type "set", dict := none, data := .set #[] 0 (.fresh 0 0 (!w.params.followText "set-order")) }).get? l = some { cls := .type "list", dict := odict, data := .seq items nl, slots := oslots } := Heap.get?_push_of_some _ hol
        have hsls := F.sub_list_set
        have hslf := F.sub_list_frozenset
        have hne : (Value.type "list" == Value.type "dict") = false := by decide
        have hl1 : (s.heap.push { cls := .type "set", dict := none, data := .set #[] 0 (.fresh 0 0 (!w.params.followText "set-order")) }).IsList l items := ⟨_, hol', rfl, nl, rfl⟩
        unfold Builtin.«set.__init__» noKeywords Builtin.Frozenset.updateFrom
        generalize hPI : pyIter = PI
        wp_walk
        subst hPI
        refine wpAny_pyIter_list hl1 ?_
        refine wpAny_bind (wpAny_runValue ?_)
        have hlS : l < s.heap.objs.size := Heap.lt_size hol
        have hh3 : A.in1.in1.in1.handled = none := by simp [hh]
        have hneI : l ≠ (s.heap.push { cls := .type "set", dict := none, data := .set #[] 0 (.fresh 0 0 (!w.params.followText "set-order")) }).objs.size := by
          rw [Heap.size_push]; exact Nat.ne_of_lt (Nat.lt_succ_of_lt hlS)
        have hSf : s.heap.objs.size ∉ [(s.heap.push { cls := .type "set", dict := none, data := .set #[] 0 (.fresh 0 0 (!w.params.followText "set-order")) }).objs.size, l] := by
          rw [Heap.size_push]; simp only [List.mem_cons, List.mem_singleton, List.not_mem_nil, or_false, not_or]
          exact ⟨Nat.ne_of_lt (Nat.lt_succ_self _), Nat.ne_of_gt hlS⟩
        have hval : ∀ (i : Nat) (v : Value), items[i]? = some v → ∃ k t, ns[i]? = some k ∧ v = .int k t := fun i v hv => by
          have hi : i < ns.length := by rw [← hisz]; exact (Array.getElem?_eq_some_iff.mp hv).1
          obtain ⟨t, e⟩ := PyProof.Rows.IntsAre.int_at hit i v (by rw [Array.getElem?_toList]; exact hv)
          refine ⟨ns[i], t, List.getElem?_eq_getElem hi, ?_⟩
          rw [e, List.getD_eq_getElem?_getD, List.getElem?_eq_getElem hi] <;> rfl
        refine set_update_ints ((Walks.list hh3 _ l hneI items).toS) s.heap.objs.size
          hSf ns hisz hb hval (items.size - 0) 0 _ (by omega) (Nat.zero_le _)
          ⟨⟨_, Heap.get?_push_size _ rfl, rfl, rfl⟩, (hl1.push _)⟩ ?hS0 ?hR
        case hS0 =>
          have hget : ((s.heap.push { cls := .type "set", dict := none, data := .set #[] 0 (.fresh 0 0 (!w.params.followText "set-order")) }).push { cls := .type "list_iterator", data := .fields #[.ref l, .int 0 0] }).get? s.heap.objs.size
              = some { cls := .type "set", dict := none, data := .set #[] 0 (.fresh 0 0 (!w.params.followText "set-order")) } := Heap.get?_push_of_some _ hS
          exact ⟨0, Nat.le_refl 0, setR_new_at hget⟩
        case hR =>
          intro s' c' hm hc' hS'
          obtain ⟨h', g2, d', tk', os'⟩ := s'
          have eg : g2 = s.gens := hm.gens
          have ed : d' = s.drawn := hm.drawn
          have eo : os' = s.os := hm.os
          subst eg; subst ed; subst eo
          show wpAny _ _ _ _ _ _
          refine wpAny_pure ?_
          show wpAny _ _ (ret Value.none) _ _ _
          rw [hisz] at hc'
          refine wpAny_pure ⟨rfl, h', tk', c', rfl, hS', hc', fun b o e => ?_⟩
          have hb0 : b < s.heap.objs.size := Heap.lt_size e
          have hb1 : b ≠ s.heap.objs.size := Nat.ne_of_lt hb0
          have hb2 : b ≠ (s.heap.push { cls := .type "set", dict := none, data := .set #[] 0 (.fresh 0 0 (!w.params.followText "set-order")) }).objs.size := by
            rw [Heap.size_push]; exact Nat.ne_of_lt (Nat.lt_succ_of_lt hb0)
          exact hm.heap b o (by simp only [List.mem_cons, List.mem_singleton, List.not_mem_nil, or_false, not_or]; exact ⟨hb1, hb2⟩) (Heap.get?_push_of_some _ (Heap.get?_push_of_some _ e))
      · cases r₂ with
        | error e => exact hr₂
        | ok fl₂ =>
          cases fl₂ with
          | ret r =>
            obtain ⟨rfl, h', tk, c', rfl, hS', hc', hk'⟩ := hr₂
            repeat (any_goals (first | assumption | wp_step))
            exact h _ _ _ hS' hc' hk'
          | _ => exact hr₂.elim
    | _ => exact hr.elim
end
section
variable {X : Cx}
def rSetI (K : PySem.W.Frag) (w : World) : List V → Hp → VK → Prop := fun vs H Q => ∃ (a : Addr) (ns : List Int), vs = [V.ref a] ∧ (SqL K H a (ns.map V.int) ∨ SqT K H a (ns.map V.int)) ∧ ns.length ≤ 4000 ∧
  ∀ p c, H p = none → c ≤ ns.length → Q (.ref p) (upd H p (SetO w p (fun j => decide (j ∈ ns)) c))
theorem c_set (hc : X.calm = true) : CallR X (.type "set") (rSetI X.K X.w) := by
  intro pins s σ H vs us Q I r h
  obtain ⟨a, ns, rfl, hs, hne, q⟩ := h
  rw [Vals.ref1 r]
  have hb : ns.length + 1 < scanBound := by unfold scanBound; omega
  rcases hs with hs | hs
  · obtain ⟨its, rv, hl, _⟩ := I.list hs
    exact call_set_listI ns (I.ok.hd hc) hl.isList (by simpa using ints_of_vals rv) hb fun h' tk c R hcn k => ⟨.ref s.heap.objs.size, _, I.laid (t' := tk) k (Nat.le_refl _) (setO_new R), rfl, q _ c (I.hok.fresh (Nat.le_refl _)) hcn⟩
  · obtain ⟨its, rv, hl, _⟩ := I.tuple hs
    exact call_set_tupI ns (I.ok.hd hc) (show s.heap.IsTuple a its.toArray from hl) (by simpa using ints_of_vals rv) hb fun h' tk c R hcn k => ⟨.ref s.heap.objs.size, _, I.laid (t' := tk) k (Nat.le_refl _) (setO_new R), rfl, q _ c (I.hok.fresh (Nat.le_refl _)) hcn⟩
def rLenSet (w : World) : List V → Hp → VK → Prop := fun vs H Q => ∃ (a : Addr) (S : Int → Bool) (n : Nat), vs = [V.ref a] ∧ H a = some (SetO w a S n) ∧ ∀ ks : List Int, ks.Nodup → (∀ k, k ∈ ks ↔ S k = true) → ks.length = n → Q (.int n) H
theorem c_lenSet : CallR X (.builtin "len") (rLenSet X.w) := by
  intro pins s σ H vs us Q I r h
  obtain ⟨a, S, n, rfl, ha, q⟩ := h
  rw [Vals.ref1 r]
  obtain ⟨o, es, ep, t, ho, hex, hd, _, nd, hm, hb, hf, hn, _⟩ := setO_get I ha
  refine call_len_set ho hex hd hf (by unfold scanBound at hb; omega) ⟨.int n, H, I.tok _, ⟨_, by rw [hn]⟩, q (es.toList.map L2.keyOf) nd (fun k => (hm k).symm) (by rw [List.length_map, Array.length_toList]; exact hn)⟩
end
section
variable {K : PySem.W.Frag} {w : World} {σ : L2.St} {H H' : Hp} {te ta tb tc : TE} {e : Rl Int}
/-- sorted(set(l)) -/
def IsSet (l ns : List Int) : Prop := ns.Pairwise (· < ·) ∧ ∀ k, k ∈ ns ↔ k ∈ l
theorem p_sortSet {l : List Int} (ha : EvV (dL dI) ta σ H l ∨ EvV (dT dI) ta σ H l) (hl : l.length < 64) : EvP (dL dI) (tCB (rSortedSet w) (tCons (tCB (rSetI K w) (tCons ta tNil)) tNil)) σ H (IsSet l) := fun H1 x Q q => by
  have fin : ∀ H2 p, Ex H1 H2 → (SqL K H2 p (l.map V.int) ∨ SqT K H2 p (l.map V.int)) → tCB (rSortedSet w) (tCons (tCB (rSetI K w) fun σ H Q => Q [.ref p] H) tNil) σ H2 Q := fun H2 p x2 hs =>
    ⟨p, l, rfl, hs, by omega, fun p' c hp' hc => ⟨p', _, c, rfl, upd_same, by omega, fun ns p'' h1 h2 h3 h4 => q _ _ ns ((x2.trans (Ex.new hp')).trans (Ex.new h4)) ⟨p'', _, rfl, upd_same, allI' _ ns, by show ns.length ≤ 4000; omega⟩ ⟨h1, fun k => (h2 k).trans (by rw [decide_eq_true_eq])⟩⟩⟩
  rcases ha with ha | ha
  · exact ha H1 x _ fun v H2 x2 r => by
      obtain ⟨p, xs, rfl, hp, hx, _⟩ := r
      have hx := allI hx
      subst hx
      exact fin H2 p x2 (.inl (sq_of hp))
  · exact ha H1 x _ fun v H2 x2 r => by
      obtain ⟨p, xs, rfl, hp, hx, _⟩ := r
      have hx := allI hx
      subst hx
      exact fin H2 p x2 (.inr (st_of hp))
/-- len(set(l)) -/
theorem p_lenSet {l : List Int} (ha : EvV (dL dI) ta σ H l ∨ EvV (dT dI) ta σ H l) (hl : l.length ≤ 4000) : EvP dI (tCB (rLenSet w) (tCons (tCB (rSetI K w) (tCons ta tNil)) tNil)) σ H (fun n => ∃ ks : List Int, ks.Nodup ∧ (∀ k, k ∈ ks ↔ k ∈ l) ∧ n = ks.length) := fun H1 x Q q => by
  have fin : ∀ H2 p, Ex H1 H2 → (SqL K H2 p (l.map V.int) ∨ SqT K H2 p (l.map V.int)) → tCB (rLenSet w) (tCons (tCB (rSetI K w) fun σ H Q => Q [.ref p] H) tNil) σ H2 Q := fun H2 p x2 hs =>
    ⟨p, l, rfl, hs, hl, fun p' c hp' hc => ⟨p', _, c, rfl, upd_same, fun ks h1 h2 h3 => q _ _ _ (x2.trans (Ex.new hp')) rfl ⟨ks, h1, fun k => (h2 k).trans (by rw [decide_eq_true_eq]), by rw [h3]⟩⟩⟩
  rcases ha with ha | ha
  · exact ha H1 x _ fun v H2 x2 r => by
      obtain ⟨p, xs, rfl, hp, hx, _⟩ := r
      have hx := allI hx
      subst hx
      exact fin H2 p x2 (.inl (sq_of hp))
  · exact ha H1 x _ fun v H2 x2 r => by
      obtain ⟨p, xs, rfl, hp, hx, _⟩ := r
      have hx := allI hx
      subst hx
      exact fin H2 p x2 (.inr (st_of hp))
theorem p_maxT {l : List Int} (ha : EvV (dT dI) ta σ H l) (h0 : 0 < l.length) : EvP dI (tCB (rMaxU K) (tCons ta tNil)) σ H (IsGreat l) := v_cb1P (ha.p (P := fun z => z = l) rfl) fun H2 v a _ r1 pa Q q => by
  subst pa
  obtain ⟨p, xs, rfl, hp, hx, _⟩ := r1
  have hx := allI hx
  subst hx
  exact ⟨p, a, rfl, .inr (st_of hp), h0, fun m hm => q _ H2 m (Ex.refl H2) rfl hm⟩
theorem p_minL {l : List Int} (ha : EvV (dL dI) ta σ H l) (h0 : 0 < l.length) : EvP dI (tCB (rMinU K) (tCons ta tNil)) σ H (IsLeast l) := v_cb1P (ha.p (P := fun z => z = l) rfl) fun H2 v a _ r1 pa Q q => by
  subst pa
  obtain ⟨p, xs, rfl, hp, hx, _⟩ := r1
  have hx := allI hx
  subst hx
  exact ⟨p, a, rfl, .inl (sq_of hp), h0, fun m hm => q _ H2 m (Ex.refl H2) rfl hm⟩
/-- of a pair -/
theorem v_maxP {l : Int × Int} (ha : EvV (dP dI dI) ta σ H l) : EvV dI (tCB (rMaxU K) (tCons ta tNil)) σ H (max l.1 l.2) := v_cb1 ha fun H2 v _ r1 Q q => by
  obtain ⟨p, x, y, rfl, hp, hx, hy⟩ := r1
  refine ⟨p, [l.1, l.2], rfl, .inr ?_, by show 0 < 2; decide, fun m hm => q _ H2 (Ex.refl H2) ?_⟩
  · rw [show x = V.int l.1 from hx, show y = V.int l.2 from hy] at hp
    exact st_of hp
  · obtain ⟨h1, h2⟩ := hm
    have a1 := h2 l.1 (by simp)
    have a2 := h2 l.2 (by simp)
    have e : m = max l.1 l.2 := by
      rcases List.mem_cons.mp h1 with z | z
      · omega
      · have := List.mem_singleton.mp z
        omega
    rw [e]
    rfl
theorem v_minP {l : Int × Int} (ha : EvV (dP dI dI) ta σ H l) : EvV dI (tCB (rMinU K) (tCons ta tNil)) σ H (min l.1 l.2) := v_cb1 ha fun H2 v _ r1 Q q => by
  obtain ⟨p, x, y, rfl, hp, hx, hy⟩ := r1
  refine ⟨p, [l.1, l.2], rfl, .inr ?_, by show 0 < 2; decide, fun m hm => q _ H2 (Ex.refl H2) ?_⟩
  · rw [show x = V.int l.1 from hx, show y = V.int l.2 from hy] at hp
    exact st_of hp
  · obtain ⟨h1, h2⟩ := hm
    have a1 := h2 l.1 (by simp)
    have a2 := h2 l.2 (by simp)
    have e : m = min l.1 l.2 := by
      rcases List.mem_cons.mp h1 with z | z
      · omega
      · have := List.mem_singleton.mp z
        omega
    rw [e]
    rfl
end
end Ow
-- OwK
/-! The rules with the frame K given: they serve within a comprehension's block too. -/
namespace Ow
open PySem PySem.Spec PyProof.Rows L2 Evl
section
variable {X : Cx} {e e2 : Expr} {te : TE} {ta : TA} {tg : Expr} {p pos tpos : Pos} {elts : List Expr} {kk : Nat}
theorem kPlus (K : PySem.W.Frag) (hK : X.K = K := by rfl) : OpR X (binaryOp .Add) (rPlus K) := hK ▸ o_plus
theorem kIn (K : PySem.W.Frag) (hK : X.K = K := by rfl) : OpR X (compareOp .In) (rInU K) := hK ▸ o_in
theorem kNotIn (K : PySem.W.Frag) (hK : X.K = K := by rfl) : OpR X (compareOp .NotIn) (rIn K true) := hK ▸ op_notIn_seq
theorem kEq (K : PySem.W.Frag) (hu : X.A.units + 64 < cLine) (hK : X.K = K := by rfl) : OpR X (compareOp .Eq) (rEqD K) := hK ▸ op_eqD hu
theorem kNe (K : PySem.W.Frag) (hu : X.A.units + 64 < cLine) (hK : X.K = K := by rfl) : OpR X (compareOp .NotEq) (rNeD K) := hK ▸ op_neD hu
theorem kIx (K : PySem.W.Frag) (hK : X.K = K := by rfl) : IxR X (rIx K) := hK ▸ ix_seq
theorem kSl (K : PySem.W.Frag) (hK : X.K = K := by rfl) : SlR X (rSlU K) := hK ▸ o_sl
theorem kLen (K : PySem.W.Frag) (hK : X.K = K := by rfl) : CallR X (.builtin "len") (rLenU K) := hK ▸ c_len
theorem kIsi (K : PySem.W.Frag) (hK : X.K = K := by rfl) : CallR X (.builtin "isinstance") (rIsi K) := hK ▸ call_isi
theorem kAll (K : PySem.W.Frag) (hc : X.calm = true := by rfl) (hK : X.K = K := by rfl) : CallR X (.builtin "all") (rAll K) := hK ▸ cr_all hc
theorem kAny (K : PySem.W.Frag) (hc : X.calm = true := by rfl) (hK : X.K = K := by rfl) : CallR X (.builtin "any") (rAny K) := hK ▸ cr_any hc
theorem kSum (K : PySem.W.Frag) (hc : X.calm = true := by rfl) (hK : X.K = K := by rfl) : CallR X (.builtin "sum") (rSum K) := hK ▸ cr_sum hc
theorem kMax (K : PySem.W.Frag) (hu : X.A.units + 64 < cLine) (hc : X.calm = true := by rfl) (hK : X.K = K := by rfl) : CallR X (.builtin "max") (rMaxU K) := hK ▸ cr_maxU hc hu
theorem kMin (K : PySem.W.Frag) (hu : X.A.units + 64 < cLine) (hc : X.calm = true := by rfl) (hK : X.K = K := by rfl) : CallR X (.builtin "min") (rMinU K) := hK ▸ cr_minU hc hu
theorem kTuple (K : PySem.W.Frag) (hK : X.K = K := by rfl) : CallR X (.type "tuple") (rTupleOf K) := hK ▸ call_tuple_of
theorem kList (K : PySem.W.Frag) (hK : X.K = K := by rfl) : CallR X (.type "list") (rListOf K) := hK ▸ call_list_of
theorem kSort (K : PySem.W.Frag) (hu : X.A.units + 64 < cLine) (hK : X.K = K := by rfl) : CallR X (.builtin "sorted") (rSortG K) := hK ▸ cr_sortG hu
theorem kSet (K : PySem.W.Frag) (w : World) (hc : X.calm = true := by rfl) (hK : X.K = K := by rfl) (hw : X.w = w := by rfl) : CallR X (.type "set") (rSetI K w) := hK ▸ hw ▸ c_set hc
theorem kSortSet (w : World) (hc : X.calm = true := by rfl) (hw : X.w = w := by rfl) : CallR X (.builtin "sorted") (rSortedSet w) := hw ▸ cr_sortedSet hc
theorem kLenSet (w : World) (hw : X.w = w := by rfl) : CallR X (.builtin "len") (rLenSet w) := hw ▸ c_lenSet
theorem kWalk (K : PySem.W.Frag) {te : TE} (h : PE X e te) (hK : X.K = K := by rfl) : PI X tg e (iAny K te) := hK ▸ pi_any h
theorem kEnumL (K : PySem.W.Frag) (hg : Gl X "enumerate") (hm : X.mg "enumerate" = none) (ha : PA X [e] ta) (hs : starEach [e] X.env = [(false, eval e X.env)] := by rfl) (hK : X.K = K := by rfl) :
    PI X (.Tuple elts kk tpos) (.Call (.Name "enumerate" p) [e] [] pos) (iEnum K ta) := hK ▸ pi_enum hg hm ha hs
theorem kEnumT (K : PySem.W.Frag) (hg : Gl X "enumerate") (hm : X.mg "enumerate" = none) (ha : PA X [e] ta) (hs : starEach [e] X.env = [(false, eval e X.env)] := by rfl) (hK : X.K = K := by rfl) :
    PI X (.Tuple elts kk tpos) (.Call (.Name "enumerate" p) [e] [] pos) (iEnumT K ta) := hK ▸ pi_enumT hg hm ha hs
theorem kZipT (K : PySem.W.Frag) (hg : Gl X "zip") (hm : X.mg "zip" = none) (ha : PA X [e, e2] ta)
    (hs : starEach [e, e2] X.env = (false, eval e X.env) :: starEach [e2] X.env := by rfl) (hpl : (backTo pos (starEach [e2] X.env)).any (·.1) = false := by rfl) (hK : X.K = K := by rfl) :
    PI X (.Tuple elts kk tpos) (.Call (.Name "zip" p) [e, e2] [] pos) (RZ.iZipA K ta) := hK ▸ RZ.pi_zipA hg hm ha hs hpl
theorem kZipM (K : PySem.W.Frag) (hg : Gl X "zip") (hm : X.mg "zip" = none) (ha : PA X [e, e2] ta)
    (hs : starEach [e, e2] X.env = (false, eval e X.env) :: starEach [e2] X.env := by rfl) (hpl : (backTo pos (starEach [e2] X.env)).any (·.1) = false := by rfl) (hK : X.K = K := by rfl) :
    PI X (.Tuple elts kk tpos) (.Call (.Name "zip" p) [e, e2] [] pos) (iZipM K ta) := hK ▸ pi_zipM hg hm ha hs hpl
theorem kTup (K : PySem.W.Frag) {es : List Expr} {k : Nat} {t : TGs} {n : Nat} (h : PGs X es t) (hc : X.calm = true := by rfl)
    (hn : (assignEach es X.env).length = n := by rfl) (hst : (assignEach es X.env).findIdx? (·.1) = none := by rfl) (hK : X.K = K := by rfl) : PG X (.Tuple es k pos) (gTup K n t) := hK ▸ pg_tup hc h hn hst
end
end Ow
-- OwS
/-! Loops, stores; small helps. -/
namespace Ow
open PySem PySem.Spec PyProof.Rows L2 Evl
section
variable {α β γ : Type} {K : PySem.W.Frag} {σ : L2.St} {H H' : Hp} {te ta tb tc : TE} {t u : TT} {e : Rl α} {f : Rl β} {g : Rl γ} {wi : TI} {D : Ends} {tu tw tz : TS} {l : List α}
theorem dT_len {v : V} {l : List α} (r : (dT e).r H v l) : l.length ≤ lim := by
  obtain ⟨p, xs, _, _, _, h⟩ := r
  exact h
theorem dL_len {v : V} {l : List α} (r : (dL e).r H v l) : l.length ≤ lim := by
  obtain ⟨p, xs, _, _, _, h⟩ := r
  exact h
theorem filt_true (l : List α) : l.filter (fun _ => true) = l := List.filter_eq_self.mpr fun _ _ => rfl
/-- a comprehension without a test -/
theorem v_lcN {tg : TG} {vs : List Nat} {S : α → Hp → L2.St → Prop} (G : α → β) (im : Im f) (hs : Src e wi σ H l) (hl : l.length ≤ lim) (hb : Bind e tg (wipe σ vs) S)
    (hw : ∀ a H1 σ', S a H1 σ' → wipe σ' vs = wipe σ vs) (he : ∀ a, a ∈ l → ∀ H1 H2 σ', Ex H H1 → S a H1 σ' → Ex H1 H2 → EvV f te σ' H2 (G a)) :
    EvV (dL f) (tLc wi tg tYes te vs) σ H (l.map G) :=
  (v_lc (fun _ => true) G im hs hl hb hw (fun a ha H1 σ' _ _ H2 x Q q => q H2 (Ex.refl H2)) fun a ha H1 H2 σ' x s x2 _ => he a ha H1 H2 σ' x s x2).is (by rw [filt_true])
theorem EvT.is {b c : Bool} (h : EvT t σ H b) (e : b = c) : EvT t σ H c := e ▸ h
/-! ### loops over what keeps the heap -/
theorem k_forN {j : Nat} (hs : Src e wi σ H l) (Pv : Nat → L2.St → Hp → Prop) (up : ∀ i σ' H1 H2, Pv i σ' H1 → Ex H1 H2 → Pv i σ' H2) (h0 : ∀ H1, Ex H H1 → Pv 0 σ H1)
    (step : ∀ i a x σ' H1, Ex H H1 → l[i]? = some a → e.r H1 x a → Pv i σ' H1 → ∀ N : L2.St → Hp → Prop, (∀ σ2 H2, Ex H1 H2 → Pv (i + 1) σ2 H2 → N σ2 H2) → tu { D with nx := N, ct := N, bk := D.nx } (σ'.set j (some x)) H1)
    (hd : ∀ σ' H1, Ex H H1 → Pv l.length σ' H1 → D.nx σ' H1) : tFor wi (gName j) tu D σ H := hs H (Ex.refl H) _ fun J B xB wk => by
  refine ⟨fun i m σ' H1 => m = l.length - i ∧ i ≤ l.length ∧ Ex B H1 ∧ Pv i σ' H1, ⟨l.length, rfl, Nat.zero_le _, Ex.refl B, h0 B xB⟩, ?_⟩
  rintro i m σ' H1 ⟨rfl, hi, x1, p⟩
  obtain ⟨w1, w2, w3⟩ := wk H1 x1
  by_cases lt : i < l.length
  · refine .inr ⟨w1 i lt, fun σ2 H2 => Ex B H2 ∧ Pv (i + 1) σ2 H2, fun σ2 H2 q => ⟨l.length - (i + 1), by omega, rfl, lt, q⟩, fun y H2 yl => ?_⟩
    obtain ⟨x2, a, ha, ra⟩ := w3 i y H2 lt yl
    exact step i a y σ' H2 (xB.trans (x1.trans x2)) ha ra (up i σ' H1 H2 p x2) _ fun σ3 H3 x3 q => ⟨(x1.trans x2).trans x3, q⟩
  · have e1 : i = l.length := by omega
    subst e1
    exact .inl ⟨w2, hd σ' H1 (xB.trans x1) p⟩
theorem k_forP {e2 : Rl β} {l : List (α × β)} {i1 j1 : Nat} (hs : Src (dP e e2) wi σ H l) (Pv : Nat → L2.St → Hp → Prop) (up : ∀ i σ' H1 H2, Pv i σ' H1 → Ex H1 H2 → Pv i σ' H2) (h0 : ∀ H1, Ex H H1 → Pv 0 σ H1)
    (step : ∀ i a x y σ' H1, Ex H H1 → l[i]? = some a → e.r H1 x a.1 → e2.r H1 y a.2 → Pv i σ' H1 → ∀ N : L2.St → Hp → Prop, (∀ σ2 H2, Ex H1 H2 → Pv (i + 1) σ2 H2 → N σ2 H2) → tu { D with nx := N, ct := N, bk := D.nx } ((σ'.set i1 (some x)).set j1 (some y)) H1)
    (hd : ∀ σ' H1, Ex H H1 → Pv l.length σ' H1 → D.nx σ' H1) : tFor wi (gTup K 2 (gCons (gName i1) (gCons (gName j1) gNil))) tu D σ H := hs H (Ex.refl H) _ fun J B xB wk => by
  refine ⟨fun i m σ' H1 => m = l.length - i ∧ i ≤ l.length ∧ Ex B H1 ∧ Pv i σ' H1, ⟨l.length, rfl, Nat.zero_le _, Ex.refl B, h0 B xB⟩, ?_⟩
  rintro i m σ' H1 ⟨rfl, hi, x1, p⟩
  obtain ⟨w1, w2, w3⟩ := wk H1 x1
  by_cases lt : i < l.length
  · refine .inr ⟨w1 i lt, fun σ2 H2 => Ex B H2 ∧ Pv (i + 1) σ2 H2, fun σ2 H2 q => ⟨l.length - (i + 1), by omega, rfl, lt, q⟩, fun y H2 yl => ?_⟩
    obtain ⟨x2, a, ha, p0, v, w, rfl, hp, rv, rw'⟩ := w3 i y H2 lt yl
    exact ⟨p0, [v, w], rfl, st_of hp, rfl, v, [w], rfl, w, [], rfl, rfl, step i a v w σ' H2 (xB.trans (x1.trans x2)) ha rv rw' (up i σ' H1 H2 p x2) _ fun σ3 H3 x3 q => ⟨(x1.trans x2).trans x3, q⟩⟩
  · have e1 : i = l.length := by omega
    subst e1
    exact .inl ⟨w2, hd σ' H1 (xB.trans x1) p⟩
theorem kq_forN {j : Nat} (hs : Src e wi σ H l) (Pv : Nat → L2.St → Hp → Prop) (up : ∀ i σ' H1 H2, Pv i σ' H1 → Ex H1 H2 → Pv i σ' H2) (h0 : ∀ H1, Ex H H1 → Pv 0 σ H1)
    (step : ∀ i a x σ' H1, Ex H H1 → l[i]? = some a → e.r H1 x a → Pv i σ' H1 → ∀ N : L2.St → Hp → Prop, (∀ σ2 H2, Ex H1 H2 → Pv (i + 1) σ2 H2 → N σ2 H2) → tu { D with nx := N, ct := N, bk := tz D } (σ'.set j (some x)) H1)
    (hd : ∀ σ' H1, Ex H H1 → Pv l.length σ' H1 → tz D σ' H1) : tSeq (tFor wi (gName j) tu) tz D σ H := k_forN (D := { D with nx := tz D }) hs Pv up h0 step hd
theorem kq_forP {e2 : Rl β} {l : List (α × β)} {i1 j1 : Nat} (hs : Src (dP e e2) wi σ H l) (Pv : Nat → L2.St → Hp → Prop) (up : ∀ i σ' H1 H2, Pv i σ' H1 → Ex H1 H2 → Pv i σ' H2) (h0 : ∀ H1, Ex H H1 → Pv 0 σ H1)
    (step : ∀ i a x y σ' H1, Ex H H1 → l[i]? = some a → e.r H1 x a.1 → e2.r H1 y a.2 → Pv i σ' H1 → ∀ N : L2.St → Hp → Prop, (∀ σ2 H2, Ex H1 H2 → Pv (i + 1) σ2 H2 → N σ2 H2) → tu { D with nx := N, ct := N, bk := tz D } ((σ'.set i1 (some x)).set j1 (some y)) H1)
    (hd : ∀ σ' H1, Ex H H1 → Pv l.length σ' H1 → tz D σ' H1) : tSeq (tFor wi (gTup K 2 (gCons (gName i1) (gCons (gName j1) gNil))) tu) tz D σ H := k_forP (D := { D with nx := tz D }) hs Pv up h0 step hd
/-- a loop over a range: nothing is asked of the heap -/
theorem k_forR1 {j : Nat} {n : Int} (hn : EvV dI ta σ H n) (b1 : n ≤ 100000) (b0 : -100000 ≤ n) (Pv : Nat → L2.St → Hp → Prop) (h0 : ∀ H1, Ex H H1 → Pv 0 σ H1)
    (step : ∀ (i : Nat) σ' H1, i < n.toNat → Pv i σ' H1 → tu { D with nx := Pv (i + 1), ct := Pv (i + 1), bk := D.nx } (σ'.set j (some (.int (i : Int)))) H1)
    (hd : ∀ σ' H1, Pv n.toNat σ' H1 → D.nx σ' H1) : tFor (iRng1 (tCons ta tNil)) (gName j) tu D σ H := hn H (Ex.refl H) _ fun v H1 x r =>
  ⟨n, by rw [show v = V.int n from r], by omega, by omega, for_range (lo := 0) (n := n.toNat) Pv (h0 H1 x) (fun i σ' H2 hi p => by
    have e0 : (0 : Int) + (i : Int) = (i : Int) := Int.zero_add _
    show tu { D with nx := Pv (i + 1), ct := Pv (i + 1), bk := D.nx } (σ'.set j (some (.int ((0 : Int) + (i : Int))))) H2
    rw [e0]
    exact step i σ' H2 hi p) hd⟩
theorem kq_forR1 {j : Nat} {n : Int} (hn : EvV dI ta σ H n) (b1 : n ≤ 100000) (b0 : -100000 ≤ n) (Pv : Nat → L2.St → Hp → Prop) (h0 : ∀ H1, Ex H H1 → Pv 0 σ H1)
    (step : ∀ (i : Nat) σ' H1, i < n.toNat → Pv i σ' H1 → tu { D with nx := Pv (i + 1), ct := Pv (i + 1), bk := tz D } (σ'.set j (some (.int (i : Int)))) H1)
    (hd : ∀ σ' H1, Pv n.toNat σ' H1 → tz D σ' H1) : tSeq (tFor (iRng1 (tCons ta tNil)) (gName j) tu) tz D σ H := k_forR1 (D := { D with nx := tz D }) hn b1 b0 Pv h0 step hd
theorem k_forR2 {j : Nat} {a b : Int} (ha : EvV dI ta σ H a) (hb : EvV dI tb σ H b) (h1 : a ≤ 100000) (h2 : -100000 ≤ a) (h3 : b ≤ 100000) (h4 : -100000 ≤ b) (Pv : Nat → L2.St → Hp → Prop) (h0 : ∀ H1, Ex H H1 → Pv 0 σ H1)
    (step : ∀ (i : Nat) σ' H1, i < (b - a).toNat → Pv i σ' H1 → tu { D with nx := Pv (i + 1), ct := Pv (i + 1), bk := D.nx } (σ'.set j (some (.int (a + (i : Int))))) H1)
    (hd : ∀ σ' H1, Pv (b - a).toNat σ' H1 → D.nx σ' H1) : tFor (iRng2 (tCons ta (tCons tb tNil))) (gName j) tu D σ H := ha H (Ex.refl H) _ fun v H1 x r => hb H1 x _ fun w H2 x2 r2 =>
  ⟨a, b, by rw [show v = V.int a from r, show w = V.int b from r2], ⟨by omega, by omega, by omega, by omega⟩, for_range (lo := a) (n := (b - a).toNat) Pv (h0 H2 (x.trans x2)) step hd⟩
theorem kq_forR2 {j : Nat} {a b : Int} (ha : EvV dI ta σ H a) (hb : EvV dI tb σ H b) (h1 : a ≤ 100000) (h2 : -100000 ≤ a) (h3 : b ≤ 100000) (h4 : -100000 ≤ b) (Pv : Nat → L2.St → Hp → Prop) (h0 : ∀ H1, Ex H H1 → Pv 0 σ H1)
    (step : ∀ (i : Nat) σ' H1, i < (b - a).toNat → Pv i σ' H1 → tu { D with nx := Pv (i + 1), ct := Pv (i + 1), bk := tz D } (σ'.set j (some (.int (a + (i : Int))))) H1)
    (hd : ∀ σ' H1, Pv (b - a).toNat σ' H1 → tz D σ' H1) : tSeq (tFor (iRng2 (tCons ta (tCons tb tNil))) (gName j) tu) tz D σ H := k_forR2 (D := { D with nx := tz D }) ha hb h1 h2 h3 h4 Pv h0 step hd
/-! ### a list that is written -/
/-- all but the object at p is as it was -/
def ExB (p : Addr) (H H' : Hp) : Prop := ∀ a o, a ≠ p → H a = some o → H' a = some o
theorem ExB.refl (p : Addr) (H : Hp) : ExB p H H := fun _ _ _ h => h
theorem ExB.trans {p : Addr} {H H1 H2 : Hp} (a : ExB p H H1) (b : ExB p H1 H2) : ExB p H H2 := fun c o n h => b c o n (a c o n h)
theorem ExB.of {p : Addr} (x : Ex H H') : ExB p H H' := fun a o _ h => x a o h
theorem ExB.upd {p : Addr} {o : HO} : ExB p H (upd H p o) := fun a u n h => by rw [upd_ne n]; exact h
theorem ExB.tx {p : Addr} {xs : List V} (x : ExB p H H') (h : H p = some (.lst xs)) : Tx H H' := fun a ys q => x a _ (fun z => by rw [z, h] at q; cases q) q
/-- from a heap that does not know p -/
theorem ExB.back {p : Addr} {H0 : Hp} (x0 : Ex H0 H) (h0 : H0 p = none) (x : ExB p H H') : Ex H0 H' := fun a o q => x a o (fun z => by rw [z, h0] at q; cases q) (x0 a o q)
theorem k_app {i : Nat} {p : Addr} {xs : List V} {b : β} (hv : σ[i]? = some (some (.ref p))) (hp : H p = some (.lst xs)) (hz : xs.length < 100000) (h : EvV f te σ H b) (k : ∀ w H1, Ex H H1 → f.r H1 w b → D.nx σ (upd H1 p (.lst (xs ++ [w])))) :
    tDrop (tBM K "list" rAppend (tVar i) (tCons te tNil)) D σ H :=
  ⟨_, hv, .inl ⟨rfl, xs, sq_of hp⟩, h H (Ex.refl H) _ fun w H1 x r => ⟨p, xs, w, rfl, rfl, x p _ hp, sz_lt hz, k w H1 x r⟩⟩
theorem kq_app {i : Nat} {p : Addr} {xs : List V} {b : β} (hv : σ[i]? = some (some (.ref p))) (hp : H p = some (.lst xs)) (hz : xs.length < 100000) (h : EvV f te σ H b) (k : ∀ w H1, Ex H H1 → f.r H1 w b → tz D σ (upd H1 p (.lst (xs ++ [w])))) :
    tSeq (tDrop (tBM K "list" rAppend (tVar i) (tCons te tNil))) tz D σ H := k_app (D := { D with nx := tz D }) hv hp hz h k
theorem k_ext {i : Nat} {p : Addr} {xs : List V} {l : List β} (hv : σ[i]? = some (some (.ref p))) (hp : H p = some (.lst xs)) (hz : xs.length + l.length ≤ 100000) (h : EvV (dL f) te σ H l) (k : ∀ zs H1, Ex H H1 → AllR f H1 zs l → D.nx σ (upd H1 p (.lst (xs ++ zs)))) :
    tDrop (tBM K "list" rExtend (tVar i) (tCons te tNil)) D σ H :=
  ⟨_, hv, .inl ⟨rfl, xs, sq_of hp⟩, h H (Ex.refl H) _ fun w H1 x r => by
    obtain ⟨q, zs, rfl, hq, hr, _⟩ := r
    have hl := Paired.length hr
    exact ⟨p, q, xs, zs, rfl, rfl, x p _ hp, hq, sz_of (by rw [hl]; exact hz), k zs H1 x hr⟩⟩
theorem kq_ext {i : Nat} {p : Addr} {xs : List V} {l : List β} (hv : σ[i]? = some (some (.ref p))) (hp : H p = some (.lst xs)) (hz : xs.length + l.length ≤ 100000) (h : EvV (dL f) te σ H l) (k : ∀ zs H1, Ex H H1 → AllR f H1 zs l → tz D σ (upd H1 p (.lst (xs ++ zs)))) :
    tSeq (tDrop (tBM K "list" rExtend (tVar i) (tCons te tNil))) tz D σ H := k_ext (D := { D with nx := tz D }) hv hp hz h k
theorem k_setI {i : Nat} {p : Addr} {xs : List V} {b : β} {j : Nat} (hv : σ[i]? = some (some (.ref p))) (hp : H p = some (.lst xs)) (h : EvV f te σ H b) (hj : EvV dI ta σ H (j : Int)) (lt : j < xs.length) (k : ∀ w H1, Ex H H1 → f.r H1 w b → D.nx σ (upd H1 p (.lst (xs.set j w)))) :
    tAsg te (gSub (tVar i) ta rSetL) D σ H := h H (Ex.refl H) _ fun w H1 x r => ⟨_, hv, hj H1 x _ fun v H2 x2 r2 =>
  ⟨p, xs, (j : Int), j, rfl, r2, x2 _ _ (x p _ hp), ixN_nat lt, k w H2 (x.trans x2) (f.up x2 r)⟩⟩
theorem kq_setI {i : Nat} {p : Addr} {xs : List V} {b : β} {j : Nat} (hv : σ[i]? = some (some (.ref p))) (hp : H p = some (.lst xs)) (h : EvV f te σ H b) (hj : EvV dI ta σ H (j : Int)) (lt : j < xs.length) (k : ∀ w H1, Ex H H1 → f.r H1 w b → tz D σ (upd H1 p (.lst (xs.set j w)))) :
    tSeq (tAsg te (gSub (tVar i) ta rSetL)) tz D σ H := k_setI (D := { D with nx := tz D }) hv hp h hj lt k
/-- x += y -/
theorem k_aug {i : Nat} {a b : Int} {op : Int → Int → Int} (hv : σ[i]? = some (some (.int a))) (h : EvV dI te σ H b) (k : ∀ H1, Ex H H1 → D.nx (σ.set i (some (.int (op a b)))) H1) : tAug i te (ipI op) D σ H :=
  ⟨_, hv, h H (Ex.refl H) _ fun w H1 x r => ⟨a, b, rfl, r, k H1 x⟩⟩
theorem k_when {b : Bool} (h : EvT t σ H b) (h1 : b = true → ∀ H1, Ex H H1 → tu D σ H1) (h2 : b = false → ∀ H1, Ex H H1 → D.nx σ H1) : tIfS t tu tNext D σ H := s_if h h1 h2
/-- a value walked: a tuple of two -/
theorem s_anyP {e : Rl α} {l : α × α} (h : EvV (dP e e) te σ H l) : Src e (iAny K te) σ H [l.1, l.2] := fun H1 x R q => h H1 x _ fun v H2 x2 ⟨p, a, b, e1, hq, ha, hb⟩ => ⟨p, e1, .inr ⟨⟨[a, b], st_of hq⟩, q _ H2 x2 (wk_tup (K := K) (st_of hq) (.cons ha (.cons hb .nil)))⟩⟩
theorem v_lenP {e : Rl α} {f : Rl β} {l : α × β} (ha : EvV (dP e f) ta σ H l) : EvV dI (tCB (rLenU K) (tCons ta tNil)) σ H 2 := v_cb1 ha fun H2 v _ r1 Q q => by
  obtain ⟨p, x, y, rfl, hp, _⟩ := r1
  exact ⟨_, 2, rfl, .inr ⟨[x, y], st_of hp, rfl⟩, q _ H2 (Ex.refl H2) rfl⟩
end
end Ow
-- OwP
/-! The text: where each def stands, its slots, its scope. -/
namespace Ow
open PySem PySem.Spec PyProof.Rows L2 Evl
def top (i : Nat) : Stmt := PySem.Challenge.pw_onewaycuts_k44_whole_halves_and_apart.main.body.getD i (.Pass ⟨0, 0, 0, 0⟩)
abbrev FnP (K : PySem.W.Frag) (x qual : Str) (st : Stmt) (f : Addr) (fd : FuncData) : Prop := FunD K x qual (defArgs st) (defBody st) (defScope st) [] [] f fd
/-- a def of the text under its name -/
def DefAt (K : PySem.W.Frag) (mg : Str → Option Value) (x : Str) (st : Stmt) : Prop := ∃ f fd, FnP K x x st f fd ∧ mg x = some (.ref f)
structure Bts (mg : Str → Option Value) : Prop where
  all : mg "all" = none
  any : mg "any" = none
  bool : mg "bool" = none
  enumerate : mg "enumerate" = none
  int : mg "int" = none
  isinstance : mg "isinstance" = none
  len : mg "len" = none
  list : mg "list" = none
  max : mg "max" = none
  min : mg "min" = none
  range : mg "range" = none
  set : mg "set" = none
  sorted : mg "sorted" = none
  str : mg "str" = none
  sum : mg "sum" = none
  tuple : mg "tuple" = none
  zip : mg "zip" = none
theorem fnAt {P : Program} {w : World} {K : PySem.W.Frag} {mg : Str → Option Value} {base : Heap} {x : Str} {st : Stmt} {N ps : List Str} {k : Nat} {sp : Sp} (D : DefAt K mg x st) (S : FnScope N ps (defScope st))
    (hb : ∀ (kV doc pm : Value) (an : Option Addr) (cdv ct : Value) (us : List Value), us.length = ps.length → bindArgs (PySem.W.fnOf x x (defArgs st) (defBody st) (defScope st) .none kV doc pm an cdv ct) ⟨us, []⟩ = pure (ps.zip us)) (len : ∀ vs H Q E, sp vs H Q E → vs.length = ps.length)
    (hbody : ∀ (f : Addr) (cdv : Value) (A : Around) (outer : List Env) (s : Shared) (H : Hp) (vs : List V) (Q : VK) (E : XK), Room k (A.deeper (envOfC x (defScope st) s.heap.objs.size f cdv)) → sp vs H Q E →
      ∃ t, PSs (cxOf CX0 P w K mg base N x (defScope st) f cdv A outer s H E) (defBody st) t ∧ t { nx := fun _ H' => Q .non H', rt := Q } (start N vs) H) : FnAt P w K mg base x (k + 1) ps sp := by
  obtain ⟨f, fd, F, m⟩ := D
  exact ⟨f, fd, m, F.kp, F.bindsN hb, F.ok S len fun cdv A outer s H vs Q E hr h => hbody f cdv A outer s H vs Q E hr h⟩
section
variable {α β γ δ : Type} {e : Rl α} {f : Rl β} {g : Rl γ} {h : Rl δ}
theorem sp1_len {pre : α → Prop} {post : α → β → Prop} {x : Str} : ∀ vs H Q E, sp1 e f pre post vs H Q E → vs.length = [x].length := fun vs H Q E ⟨v, a, e1, _⟩ => by rw [e1]; rfl
theorem sp2_len {pre : α → β → Prop} {post : α → β → γ → Prop} {x y : Str} : ∀ vs H Q E, sp2 e f g pre post vs H Q E → vs.length = [x, y].length := fun vs H Q E ⟨v, w, a, b, e1, _⟩ => by rw [e1]; rfl
theorem sp3_len {pre : α → β → γ → Prop} {post : α → β → γ → δ → Prop} {x y z : Str} : ∀ vs H Q E, sp3 e f g h pre post vs H Q E → vs.length = [x, y, z].length := fun vs H Q E ⟨v, w, u, a, b, c, e1, _⟩ => by rw [e1]; rfl
end

abbrev s_is_integer : Stmt := top 16
abbrev N_is_integer : List Str := ["thing"]
theorem sc_is_integer : FnScope N_is_integer ["thing"] (defScope s_is_integer) := ⟨rfl, rfl, rfl, by decide +kernel, rfl, by decide +kernel, by decide +kernel⟩
abbrev s_is_between : Stmt := top 17
abbrev N_is_between : List Str := ["thing", "low", "high"]
theorem sc_is_between : FnScope N_is_between ["thing", "low", "high"] (defScope s_is_between) := ⟨rfl, rfl, rfl, by decide +kernel, rfl, by decide +kernel, by decide +kernel⟩
abbrev s_is_set : Stmt := top 18
abbrev N_is_set : List Str := ["thing", "many", "one", "other"]
theorem sc_is_set : FnScope N_is_set ["thing", "many"] (defScope s_is_set) := ⟨rfl, rfl, rfl, by decide +kernel, rfl, by decide +kernel, by decide +kernel⟩
abbrev s_in_order : Stmt := top 19
abbrev N_in_order : List Str := ["row"]
theorem sc_in_order : FnScope N_in_order ["row"] (defScope s_in_order) := ⟨rfl, rfl, rfl, by decide +kernel, rfl, by decide +kernel, by decide +kernel⟩
abbrev s_sets_below : Stmt := top 20
abbrev N_sets_below : List Str := ["many", "found", "thing", "row"]
theorem sc_sets_below : FnScope N_sets_below ["many"] (defScope s_sets_below) := ⟨rfl, rfl, rfl, by decide +kernel, rfl, by decide +kernel, by decide +kernel⟩
abbrev s_have_common : Stmt := top 21
abbrev N_have_common : List Str := ["one", "other", "thing"]
theorem sc_have_common : FnScope N_have_common ["one", "other"] (defScope s_have_common) := ⟨rfl, rfl, rfl, by decide +kernel, rfl, by decide +kernel, by decide +kernel⟩
abbrev s_spread : Stmt := top 22
abbrev N_spread : List Str := ["places", "roads", "reached", "at", "first", "last"]
theorem sc_spread : FnScope N_spread ["places", "roads"] (defScope s_spread) := ⟨rfl, rfl, rfl, by decide +kernel, rfl, by decide +kernel, by decide +kernel⟩
abbrev s_net_lines : Stmt := top 25
abbrev N_net_lines : List Str := ["many", "roads", "first", "last"]
theorem sc_net_lines : FnScope N_net_lines ["many", "roads"] (defScope s_net_lines) := ⟨rfl, rfl, rfl, by decide +kernel, rfl, by decide +kernel, by decide +kernel⟩
abbrev s_digit_in : Stmt := top 26
abbrev N_digit_in : List Str := ["word"]
theorem sc_digit_in : FnScope N_digit_in ["word"] (defScope s_digit_in) := ⟨rfl, rfl, rfl, by decide +kernel, rfl, by decide +kernel, by decide +kernel⟩
abbrev s_row_in : Stmt := top 27
abbrev N_row_in : List Str := ["line", "word"]
theorem sc_row_in : FnScope N_row_in ["line"] (defScope s_row_in) := ⟨rfl, rfl, rfl, by decide +kernel, rfl, by decide +kernel, by decide +kernel⟩
abbrev s_parts_in : Stmt := top 28
abbrev N_parts_in : List Str := ["text", "lines", "many", "rows", "line", "row"]
theorem sc_parts_in : FnScope N_parts_in ["text"] (defScope s_parts_in) := ⟨rfl, rfl, rfl, by decide +kernel, rfl, by decide +kernel, by decide +kernel⟩
abbrev s_is_road : Stmt := top 30
abbrev N_is_road : List Str := ["thing", "many", "one"]
theorem sc_is_road : FnScope N_is_road ["thing", "many"] (defScope s_is_road) := ⟨rfl, rfl, rfl, by decide +kernel, rfl, by decide +kernel, by decide +kernel⟩
abbrev s_together_with : Stmt := top 31
abbrev N_together_with : List Str := ["place", "roads", "first", "last"]
theorem sc_together_with : FnScope N_together_with ["place", "roads"] (defScope s_together_with) := ⟨rfl, rfl, rfl, by decide +kernel, rfl, by decide +kernel, by decide +kernel⟩
abbrev s_Net___init : Stmt := inClass (top 32) 1
abbrev N_Net___init : List Str := ["self", "many", "roads", "places", "road"]
theorem sc_Net___init : FnScope N_Net___init ["self", "many", "roads"] (defScope s_Net___init) := ⟨rfl, rfl, rfl, by decide +kernel, rfl, by decide +kernel, by decide +kernel⟩
abbrev s_Net_read : Stmt := inClass (top 32) 2
abbrev N_Net_read : List Str := ["cls", "text", "many", "rows", "road"]
theorem sc_Net_read : FnScope N_Net_read ["cls", "text"] (defScope s_Net_read) := ⟨rfl, rfl, rfl, by decide +kernel, rfl, by decide +kernel, by decide +kernel⟩
abbrev s_Net_text : Stmt := inClass (top 32) 3
abbrev N_Net_text : List Str := ["self", "line"]
theorem sc_Net_text : FnScope N_Net_text ["self"] (defScope s_Net_text) := ⟨rfl, rfl, rfl, by decide +kernel, rfl, by decide +kernel, by decide +kernel⟩
abbrev s_Net_many : Stmt := inClass (top 32) 4
abbrev N_Net_many : List Str := ["self"]
theorem sc_Net_many : FnScope N_Net_many ["self"] (defScope s_Net_many) := ⟨rfl, rfl, rfl, by decide +kernel, rfl, by decide +kernel, by decide +kernel⟩
abbrev s_Net_roads : Stmt := inClass (top 32) 5
abbrev N_Net_roads : List Str := ["self"]
theorem sc_Net_roads : FnScope N_Net_roads ["self"] (defScope s_Net_roads) := ⟨rfl, rfl, rfl, by decide +kernel, rfl, by decide +kernel, by decide +kernel⟩
abbrev s_Net___call : Stmt := inClass (top 32) 6
abbrev N_Net___call : List Str := ["self", "place"]
theorem sc_Net___call : FnScope N_Net___call ["self", "place"] (defScope s_Net___call) := ⟨rfl, rfl, rfl, by decide +kernel, rfl, by decide +kernel, by decide +kernel⟩
abbrev s_Net___len : Stmt := inClass (top 32) 7
abbrev N_Net___len : List Str := ["self"]
theorem sc_Net___len : FnScope N_Net___len ["self"] (defScope s_Net___len) := ⟨rfl, rfl, rfl, by decide +kernel, rfl, by decide +kernel, by decide +kernel⟩
abbrev s_Net___iter : Stmt := inClass (top 32) 8
abbrev N_Net___iter : List Str := ["self"]
theorem sc_Net___iter : FnScope N_Net___iter ["self"] (defScope s_Net___iter) := ⟨rfl, rfl, rfl, by decide +kernel, rfl, by decide +kernel, by decide +kernel⟩
abbrev s_Net___getitem : Stmt := inClass (top 32) 9
abbrev N_Net___getitem : List Str := ["self", "number"]
theorem sc_Net___getitem : FnScope N_Net___getitem ["self", "number"] (defScope s_Net___getitem) := ⟨rfl, rfl, rfl, by decide +kernel, rfl, by decide +kernel, by decide +kernel⟩
abbrev s_Net___contains : Stmt := inClass (top 32) 10
abbrev N_Net___contains : List Str := ["self", "road"]
theorem sc_Net___contains : FnScope N_Net___contains ["self", "road"] (defScope s_Net___contains) := ⟨rfl, rfl, rfl, by decide +kernel, rfl, by decide +kernel, by decide +kernel⟩
abbrev s_Net___add : Stmt := inClass (top 32) 11
abbrev N_Net___add : List Str := ["self", "road"]
theorem sc_Net___add : FnScope N_Net___add ["self", "road"] (defScope s_Net___add) := ⟨rfl, rfl, rfl, by decide +kernel, rfl, by decide +kernel, by decide +kernel⟩
abbrev s_Net___sub : Stmt := inClass (top 32) 12
abbrev N_Net___sub : List Str := ["self", "number", "some", "at", "road"]
theorem sc_Net___sub : FnScope N_Net___sub ["self", "number"] (defScope s_Net___sub) := ⟨rfl, rfl, rfl, by decide +kernel, rfl, by decide +kernel, by decide +kernel⟩
abbrev s_Net___or : Stmt := inClass (top 32) 13
abbrev N_Net___or : List Str := ["self", "other", "most", "more", "moved", "first", "last"]
theorem sc_Net___or : FnScope N_Net___or ["self", "other"] (defScope s_Net___or) := ⟨rfl, rfl, rfl, by decide +kernel, rfl, by decide +kernel, by decide +kernel⟩
abbrev s_Net___neg : Stmt := inClass (top 32) 14
abbrev N_Net___neg : List Str := ["self", "turned", "first", "last"]
theorem sc_Net___neg : FnScope N_Net___neg ["self"] (defScope s_Net___neg) := ⟨rfl, rfl, rfl, by decide +kernel, rfl, by decide +kernel, by decide +kernel⟩
abbrev s_Net___eq : Stmt := inClass (top 32) 15
abbrev N_Net___eq : List Str := ["self", "other"]
theorem sc_Net___eq : FnScope N_Net___eq ["self", "other"] (defScope s_Net___eq) := ⟨rfl, rfl, rfl, by decide +kernel, rfl, by decide +kernel, by decide +kernel⟩
abbrev s_Net___repr : Stmt := inClass (top 32) 16
abbrev N_Net___repr : List Str := ["self"]
theorem sc_Net___repr : FnScope N_Net___repr ["self"] (defScope s_Net___repr) := ⟨rfl, rfl, rfl, by decide +kernel, rfl, by decide +kernel, by decide +kernel⟩
abbrev s_need_net : Stmt := top 33
abbrev N_need_net : List Str := ["thing"]
theorem sc_need_net : FnScope N_need_net ["thing"] (defScope s_need_net) := ⟨rfl, rfl, rfl, by decide +kernel, rfl, by decide +kernel, by decide +kernel⟩
abbrev s_is_closed : Stmt := top 35
abbrev N_is_closed : List Str := ["net", "places", "first", "last"]
theorem sc_is_closed : FnScope N_is_closed ["net", "places"] (defScope s_is_closed) := ⟨rfl, rfl, rfl, by decide +kernel, rfl, by decide +kernel, by decide +kernel⟩
abbrev s_is_a_cut : Stmt := top 36
abbrev N_is_a_cut : List Str := ["net", "thing"]
theorem sc_is_a_cut : FnScope N_is_a_cut ["net", "thing"] (defScope s_is_a_cut) := ⟨rfl, rfl, rfl, by decide +kernel, rfl, by decide +kernel, by decide +kernel⟩
abbrev s_roads_into : Stmt := top 37
abbrev N_roads_into : List Str := ["net", "places", "found", "at", "road"]
theorem sc_roads_into : FnScope N_roads_into ["net", "places"] (defScope s_roads_into) := ⟨rfl, rfl, rfl, by decide +kernel, rfl, by decide +kernel, by decide +kernel⟩
abbrev s_cuts_of : Stmt := top 38
abbrev N_cuts_of : List Str := ["net", "places"]
theorem sc_cuts_of : FnScope N_cuts_of ["net"] (defScope s_cuts_of) := ⟨rfl, rfl, rfl, by decide +kernel, rfl, by decide +kernel, by decide +kernel⟩
abbrev s_do_cross : Stmt := top 39
abbrev N_do_cross : List Str := ["many", "one", "other", "common", "place"]
theorem sc_do_cross : FnScope N_do_cross ["many", "one", "other"] (defScope s_do_cross) := ⟨rfl, rfl, rfl, by decide +kernel, rfl, by decide +kernel, by decide +kernel⟩
abbrev s_need_family : Stmt := top 42
abbrev N_need_family : List Str := ["net", "family", "places"]
theorem sc_need_family : FnScope N_need_family ["net", "family"] (defScope s_need_family) := ⟨rfl, rfl, rfl, by decide +kernel, rfl, by decide +kernel, by decide +kernel⟩
abbrev s_uses_of : Stmt := top 43
abbrev N_uses_of : List Str := ["net", "family", "rows", "places", "number"]
theorem sc_uses_of : FnScope N_uses_of ["net", "family"] (defScope s_uses_of) := ⟨rfl, rfl, rfl, by decide +kernel, rfl, by decide +kernel, by decide +kernel⟩
abbrev s_uses : Stmt := top 44
abbrev N_uses : List Str := ["net", "family"]
theorem sc_uses : FnScope N_uses ["net", "family"] (defScope s_uses) := ⟨rfl, rfl, rfl, by decide +kernel, rfl, by decide +kernel, by decide +kernel⟩
abbrev s_first_crossing : Stmt := top 45
abbrev N_first_crossing : List Str := ["many", "family", "first", "second"]
theorem sc_first_crossing : FnScope N_first_crossing ["many", "family"] (defScope s_first_crossing) := ⟨rfl, rfl, rfl, by decide +kernel, rfl, by decide +kernel, by decide +kernel⟩
abbrev s_uncrossed : Stmt := top 46
abbrev N_uncrossed : List Str := ["net", "family", "row", "found", "first", "second", "one", "other", "place"]
theorem sc_uncrossed : FnScope N_uncrossed ["net", "family"] (defScope s_uncrossed) := ⟨rfl, rfl, rfl, by decide +kernel, rfl, by decide +kernel, by decide +kernel⟩
abbrev s_sides_of : Stmt := top 47
abbrev N_sides_of : List Str := ["rows", "sides", "start", "ahead", "at", "to", "row"]
theorem sc_sides_of : FnScope N_sides_of ["rows"] (defScope s_sides_of) := ⟨rfl, rfl, rfl, by decide +kernel, rfl, by decide +kernel, by decide +kernel⟩
abbrev s_halves : Stmt := top 48
abbrev N_halves : List Str := ["net", "family", "found", "over", "sides", "first", "number", "use", "places", "side"]
theorem sc_halves : FnScope N_halves ["net", "family"] (defScope s_halves) := ⟨rfl, rfl, rfl, by decide +kernel, rfl, by decide +kernel, by decide +kernel⟩
abbrev s_meets_all : Stmt := top 50
abbrev N_meets_all : List Str := ["rows", "numbers", "row"]
theorem sc_meets_all : FnScope N_meets_all ["rows", "numbers"] (defScope s_meets_all) := ⟨rfl, rfl, rfl, by decide +kernel, rfl, by decide +kernel, by decide +kernel⟩
abbrev s_rows_of : Stmt := top 51
abbrev N_rows_of : List Str := ["net", "places"]
theorem sc_rows_of : FnScope N_rows_of ["net"] (defScope s_rows_of) := ⟨rfl, rfl, rfl, by decide +kernel, rfl, by decide +kernel, by decide +kernel⟩
abbrev s_is_needed : Stmt := top 52
abbrev N_is_needed : List Str := ["rows", "numbers", "number", "row", "one"]
theorem sc_is_needed : FnScope N_is_needed ["rows", "numbers", "number"] (defScope s_is_needed) := ⟨rfl, rfl, rfl, by decide +kernel, rfl, by decide +kernel, by decide +kernel⟩
abbrev s_joins_of : Stmt := top 53
abbrev N_joins_of : List Str := ["net", "rows", "found", "numbers", "number"]
theorem sc_joins_of : FnScope N_joins_of ["net"] (defScope s_joins_of) := ⟨rfl, rfl, rfl, by decide +kernel, rfl, by decide +kernel, by decide +kernel⟩
abbrev s_price_of : Stmt := top 54
abbrev N_price_of : List Str := ["numbers", "prices", "number"]
theorem sc_price_of : FnScope N_price_of ["numbers", "prices"] (defScope s_price_of) := ⟨rfl, rfl, rfl, by decide +kernel, rfl, by decide +kernel, by decide +kernel⟩
abbrev s_least_price : Stmt := top 55
abbrev N_least_price : List Str := ["some", "prices", "numbers"]
theorem sc_least_price : FnScope N_least_price ["some", "prices"] (defScope s_least_price) := ⟨rfl, rfl, rfl, by decide +kernel, rfl, by decide +kernel, by decide +kernel⟩
abbrev s_packing : Stmt := top 56
abbrev N_packing : List Str := ["net", "prices", "some", "family", "rest", "places", "row", "is_done", "later", "number", "price"]
theorem sc_packing : FnScope N_packing ["net", "prices"] (defScope s_packing) := ⟨rfl, rfl, rfl, by decide +kernel, rfl, by decide +kernel, by decide +kernel⟩
abbrev s_apart : Stmt := top 57
abbrev N_apart : List Str := ["net", "road"]
theorem sc_apart : FnScope N_apart ["net"] (defScope s_apart) := ⟨rfl, rfl, rfl, by decide +kernel, rfl, by decide +kernel, by decide +kernel⟩
abbrev s_law_cell_at : Stmt := top 59
abbrev N_law_cell_at : List Str := ["_law_script", "_law_k"]
theorem sc_law_cell_at : FnScope N_law_cell_at ["_law_script", "_law_k"] (defScope s_law_cell_at) := ⟨rfl, rfl, rfl, by decide +kernel, rfl, by decide +kernel, by decide +kernel⟩
abbrev s_law_pen : Stmt := top 60
abbrev N_law_pen : List Str := ["_law_cell"]
theorem sc_law_pen : FnScope N_law_pen ["_law_cell"] (defScope s_law_pen) := ⟨rfl, rfl, rfl, by decide +kernel, rfl, by decide +kernel, by decide +kernel⟩
abbrev s_law_draw : Stmt := top 61
abbrev N_law_draw : List Str := ["_law_pen_here", "_law_count", "_law_digit", "_law_stir"]
theorem sc_law_draw : FnScope N_law_draw ["_law_pen_here", "_law_count"] (defScope s_law_draw) := ⟨rfl, rfl, rfl, by decide +kernel, rfl, by decide +kernel, by decide +kernel⟩
abbrev s_law_sets : Stmt := top 62
abbrev N_law_sets : List Str := ["_law_count", "_law_found", "_law_one", "_law_row", "_law_length"]
theorem sc_law_sets : FnScope N_law_sets ["_law_count"] (defScope s_law_sets) := ⟨rfl, rfl, rfl, by decide +kernel, rfl, by decide +kernel, by decide +kernel⟩
abbrev s_law_road : Stmt := top 63
abbrev N_law_road : List Str := ["_law_pen_here", "_law_many", "_law_first", "_law_last"]
theorem sc_law_road : FnScope N_law_road ["_law_pen_here", "_law_many"] (defScope s_law_road) := ⟨rfl, rfl, rfl, by decide +kernel, rfl, by decide +kernel, by decide +kernel⟩
abbrev s_law_net : Stmt := top 64
abbrev N_law_net : List Str := ["_law_pen_here", "_law_most", "_law_many", "_law_kind", "_law_found", "_law_place", "_law_before", "_law_turn", "_law_road_here", "_law_rest", "_law_mixed", "_law_names", "_law_left", "_law_first", "_law_last"]
theorem sc_law_net : FnScope N_law_net ["_law_pen_here", "_law_most"] (defScope s_law_net) := ⟨rfl, rfl, rfl, by decide +kernel, rfl, by decide +kernel, by decide +kernel⟩
abbrev s_law_text : Stmt := top 65
abbrev N_law_text : List Str := ["_law_many", "_law_roads", "_law_lines", "_law_first", "_law_last"]
theorem sc_law_text : FnScope N_law_text ["_law_many", "_law_roads"] (defScope s_law_text) := ⟨rfl, rfl, rfl, by decide +kernel, rfl, by decide +kernel, by decide +kernel⟩
abbrev s_law_built : Stmt := top 66
abbrev N_law_built : List Str := ["_law_many", "_law_roads"]
theorem sc_law_built : FnScope N_law_built ["_law_many", "_law_roads"] (defScope s_law_built) := ⟨rfl, rfl, rfl, by decide +kernel, rfl, by decide +kernel, by decide +kernel⟩
abbrev s_law_is_closed : Stmt := top 67
abbrev N_law_is_closed : List Str := ["_law_roads", "_law_places", "_law_first", "_law_last"]
theorem sc_law_is_closed : FnScope N_law_is_closed ["_law_roads", "_law_places"] (defScope s_law_is_closed) := ⟨rfl, rfl, rfl, by decide +kernel, rfl, by decide +kernel, by decide +kernel⟩
abbrev s_law_cuts : Stmt := top 68
abbrev N_law_cuts : List Str := ["_law_many", "_law_roads", "_law_row"]
theorem sc_law_cuts : FnScope N_law_cuts ["_law_many", "_law_roads"] (defScope s_law_cuts) := ⟨rfl, rfl, rfl, by decide +kernel, rfl, by decide +kernel, by decide +kernel⟩
abbrev s_law_into : Stmt := top 69
abbrev N_law_into : List Str := ["_law_roads", "_law_places", "_law_at", "_law_road_here"]
theorem sc_law_into : FnScope N_law_into ["_law_roads", "_law_places"] (defScope s_law_into) := ⟨rfl, rfl, rfl, by decide +kernel, rfl, by decide +kernel, by decide +kernel⟩
abbrev s_law_uses : Stmt := top 70
abbrev N_law_uses : List Str := ["_law_roads", "_law_family", "_law_rows", "_law_row", "_law_number"]
theorem sc_law_uses : FnScope N_law_uses ["_law_roads", "_law_family"] (defScope s_law_uses) := ⟨rfl, rfl, rfl, by decide +kernel, rfl, by decide +kernel, by decide +kernel⟩
abbrev s_law_do_cross : Stmt := top 71
abbrev N_law_do_cross : List Str := ["_law_many", "_law_one", "_law_other", "_law_common", "_law_place"]
theorem sc_law_do_cross : FnScope N_law_do_cross ["_law_many", "_law_one", "_law_other"] (defScope s_law_do_cross) := ⟨rfl, rfl, rfl, by decide +kernel, rfl, by decide +kernel, by decide +kernel⟩
abbrev s_law_pick : Stmt := top 72
abbrev N_law_pick : List Str := ["_law_pen_here", "_law_some"]
theorem sc_law_pick : FnScope N_law_pick ["_law_pen_here", "_law_some"] (defScope s_law_pick) := ⟨rfl, rfl, rfl, by decide +kernel, rfl, by decide +kernel, by decide +kernel⟩
abbrev s_law_ordered : Stmt := top 73
abbrev N_law_ordered : List Str := ["_law_family", "_law_size", "_law_row"]
theorem sc_law_ordered : FnScope N_law_ordered ["_law_family"] (defScope s_law_ordered) := ⟨rfl, rfl, rfl, by decide +kernel, rfl, by decide +kernel, by decide +kernel⟩
abbrev s_law_first_cross : Stmt := top 74
abbrev N_law_first_cross : List Str := ["_law_many", "_law_family", "_law_first", "_law_one", "_law_second"]
theorem sc_law_first_cross : FnScope N_law_first_cross ["_law_many", "_law_family"] (defScope s_law_first_cross) := ⟨rfl, rfl, rfl, by decide +kernel, rfl, by decide +kernel, by decide +kernel⟩
abbrev s_law_uncrossed : Stmt := top 75
abbrev N_law_uncrossed : List Str := ["_law_many", "_law_family", "_law_rows", "_law_found", "_law_one", "_law_other", "_law_place"]
theorem sc_law_uncrossed : FnScope N_law_uncrossed ["_law_many", "_law_family"] (defScope s_law_uncrossed) := ⟨rfl, rfl, rfl, by decide +kernel, rfl, by decide +kernel, by decide +kernel⟩
abbrev s_law_calm : Stmt := top 76
abbrev N_law_calm : List Str := ["_law_pen_here", "_law_many", "_law_roads", "_law_some", "_law_found", "_law_turn", "_law_more", "_law_rest", "_law_mixed"]
theorem sc_law_calm : FnScope N_law_calm ["_law_pen_here", "_law_many", "_law_roads"] (defScope s_law_calm) := ⟨rfl, rfl, rfl, by decide +kernel, rfl, by decide +kernel, by decide +kernel⟩
abbrev s_law_right : Stmt := top 77
abbrev N_law_right : List Str := ["_law_pen_here", "_law_many", "_law_roads", "_law_net_here", "_law_family", "_law_first", "_law_second", "_law_most", "_law_one", "_law_other"]
theorem sc_law_right : FnScope N_law_right ["_law_pen_here"] (defScope s_law_right) := ⟨rfl, rfl, rfl, by decide +kernel, rfl, by decide +kernel, by decide +kernel⟩
abbrev s_law : Stmt := top 78
abbrev N_law : List Str := ["_law_script", "_law_k", "_law_pen_here", "_law_lap"]
theorem sc_law : FnScope N_law ["_law_script"] (defScope s_law) := ⟨rfl, rfl, rfl, by decide +kernel, rfl, by decide +kernel, by decide +kernel⟩
end Ow
-- OwR
set_option maxHeartbeats 0
/-! The head's first half: what is looked at behind the top, the top's run. -/
namespace Ow
open PySem PySem.Spec PyProof.Rows L2 Evl
abbrev CN (K : PySem.W.Frag) : Addr := He.ga K "Net"
def propB (K : PySem.W.Frag) (f : Str) : Bool := He.eqO (PySem.W.findIn K (.ref (CN K)) f) (some (some (.ref (He.ma K (CN K) f)))) && (He.eqO (PySem.W.specialIn K (.ref (He.ma K (CN K) f)) "__get__") (some (some (.builtin "property.__get__"))) && (decide (PySem.W.takesIn K (.ref (He.ma K (CN K) f)) = some true) && (match PySem.W.recIn K (He.ma K (CN K) f) "property" with
  | some (.ref _ :: _) => true
  | _ => false)))
def isnB (K : PySem.W.Frag) : Bool := He.eqO (PySem.W.findIn K (.ref (CN K)) "__class__") (some (some (.builtin "object.__class__"))) && (He.eqO (PySem.W.specialIn K (.builtin "object.__class__") "__get__") (some (some (.builtin "getset_descriptor.__get__"))) && (decide (PySem.W.takesIn K (.builtin "object.__class__") = some true) && (decide (PySem.W.mroIn K (CN K) (.type "object") = some true) && decide (PySem.W.kitOne K (.ref (CN K)) (.ref (CN K)) = some true))))
def exB (K : PySem.W.Frag) : Bool := PySem.W.readsIn K (CN K) (.type "type") && (He5.wrapB K (CN K) "classmethod" "classmethod.__get__" "read" && (PySem.W.fnIn K (He5.wf K (CN K) "classmethod" "read") && (propB K "many" && (propB K "roads" && isnB K))))
/-! ### the hook -/
def SaysO (fa : List He.Fa) (fn : List He5.DefA) (K : PySem.W.Frag) : Prop := He5.SaysA fa fn K ∧ exB K = true
/-- all addresses that the top comes to (it ends with some 620 objects) -/
def addrs : List Addr := List.range 640
def obsO (fa : List He.Fa) (fn : List He5.DefA) (g : Addr → Option Obj) : He.AlD × Bool := (He5.obsA fa fn (He.frG g addrs), exB (He.frG g addrs))
def hookO (fa : List He.Fa) (fn : List He5.DefA) : PySem.W.Hook where
  α := He.AlD × Bool
  obs := fun s => obsO fa fn s.heap.get?
  val := fun _ => (He5.valA fn, true)
  says := fun _ h => ∃ K : PySem.W.Frag, K.In h ∧ SaysO fa fn K
  of := fun _ _ e => ⟨_, He.frG_in, congrArg (fun z : He.AlD × Bool => z.1) e, congrArg (fun z : He.AlD × Bool => z.2) e⟩
  keeps := fun _ _ _ ⟨K, hK, c⟩ k => ⟨K, PySem.W.Frag.In.keeps hK k, c⟩
theorem obsO_eq {fa : List He.Fa} {fn : List He5.DefA} {g : Addr → Option Obj} {s : Shared} (h : ∀ a, g a = s.heap.get? a) : obsO fa fn g = (hookO fa fn).obs s := by
  have e : g = s.heap.get? := funext h
  rw [e] <;> rfl
/-- a def of the top, of the class -/
abbrev dTop (x : Str) (st : Stmt) : He5.DefA := ⟨fun K => He.ga K x, x, x, defArgs st, defBody st, defScope st, [], []⟩
abbrev dMet (x q : Str) (st : Stmt) : He5.DefA := ⟨fun K => He.ma K (CN K) x, x, q, defArgs st, defBody st, defScope st, [], []⟩
abbrev dWr (T : String) (x q : Str) (st : Stmt) : He5.DefA := ⟨fun K => He5.wf K (CN K) T x, x, q, defArgs st, defBody st, defScope st, [], []⟩
def fn1 : List He5.DefA := (show List He5.DefA from [dMet "__init__" "Net.__init__" s_Net___init, dMet "__len__" "Net.__len__" s_Net___len, dWr "property" "many" "Net.many" s_Net_many, dWr "property" "roads" "Net.roads" s_Net_roads, dWr "classmethod" "read" "Net.read" s_Net_read, dTop "is_integer" s_is_integer, dTop "is_between" s_is_between, dTop "is_set" s_is_set, dTop "in_order" s_in_order, dTop "sets_below" s_sets_below, dTop "have_common" s_have_common, dTop "spread" s_spread, dTop "net_lines" s_net_lines, dTop "digit_in" s_digit_in, dTop "row_in" s_row_in, dTop "parts_in" s_parts_in, dTop "is_road" s_is_road, dTop "together_with" s_together_with, dTop "need_net" s_need_net, dTop "is_closed" s_is_closed]) ++ (show List He5.DefA from [dTop "is_a_cut" s_is_a_cut, dTop "roads_into" s_roads_into, dTop "cuts_of" s_cuts_of, dTop "do_cross" s_do_cross, dTop "need_family" s_need_family, dTop "uses_of" s_uses_of, dTop "uses" s_uses, dTop "first_crossing" s_first_crossing, dTop "uncrossed" s_uncrossed])
def fn2 : List He5.DefA := (show List He5.DefA from [dTop "sides_of" s_sides_of, dTop "halves" s_halves, dTop "meets_all" s_meets_all, dTop "rows_of" s_rows_of, dTop "is_needed" s_is_needed, dTop "joins_of" s_joins_of, dTop "price_of" s_price_of, dTop "least_price" s_least_price, dTop "packing" s_packing, dTop "apart" s_apart, dTop "_law_cell_at" s_law_cell_at, dTop "_law_pen" s_law_pen, dTop "_law_draw" s_law_draw, dTop "_law_sets" s_law_sets, dTop "_law_road" s_law_road, dTop "_law_net" s_law_net, dTop "_law_text" s_law_text, dTop "_law_built" s_law_built, dTop "_law_is_closed" s_law_is_closed, dTop "_law_cuts" s_law_cuts]) ++ (show List He5.DefA from [dTop "_law_into" s_law_into, dTop "_law_uses" s_law_uses, dTop "_law_do_cross" s_law_do_cross, dTop "_law_pick" s_law_pick, dTop "_law_ordered" s_law_ordered, dTop "_law_first_cross" s_law_first_cross, dTop "_law_uncrossed" s_law_uncrossed, dTop "_law_calm" s_law_calm, dTop "_law_right" s_law_right, dTop "law" s_law])
def fn : List He5.DefA := fn1 ++ fn2
def fa1 : List He.Fa := (show List He.Fa from [.cls "Net", .noat "Net" "count", .noat "Net" "row", .mkr "Net", .meth "Net" "__len__", .glo "Net", .int "MOST_CUTS" 16, .int "MOST_PLACES" 6, .int "MOST_ROADS" 10, .str "HEAD" "places ", .free "all", .free "any", .free "bool", .free "enumerate", .free "int", .free "isinstance", .free "len", .free "list", .free "max", .free "min"]) ++ (show List He.Fa from [.free "range", .free "set", .free "sorted", .free "str", .free "sum", .free "tuple", .free "zip", .glo "is_integer", .glo "is_between", .glo "is_set", .glo "in_order", .glo "sets_below", .glo "have_common", .glo "spread", .glo "net_lines", .glo "digit_in", .glo "row_in", .glo "parts_in", .glo "is_road", .glo "together_with"])
def fa2 : List He.Fa := (show List He.Fa from [.glo "need_net", .glo "is_closed", .glo "is_a_cut", .glo "roads_into", .glo "cuts_of", .glo "do_cross", .glo "need_family", .glo "uses_of", .glo "uses", .glo "first_crossing", .glo "uncrossed", .glo "sides_of", .glo "halves", .glo "meets_all", .glo "rows_of", .glo "is_needed", .glo "joins_of", .glo "price_of", .glo "least_price", .glo "packing"]) ++ (show List He.Fa from [.glo "apart", .glo "_law_cell_at", .glo "_law_pen", .glo "_law_draw", .glo "_law_sets", .glo "_law_road", .glo "_law_net", .glo "_law_text", .glo "_law_built", .glo "_law_is_closed", .glo "_law_cuts", .glo "_law_into", .glo "_law_uses", .glo "_law_do_cross", .glo "_law_pick", .glo "_law_ordered", .glo "_law_first_cross", .glo "_law_uncrossed", .glo "_law_calm", .glo "_law_right"]) ++ (show List He.Fa from [.glo "law"])
def fa : List He.Fa := fa1 ++ fa2
def loose : List Str := (show List Str from ["__name__", "RoadError", "NoMany", "NoRoad", "NoPlace", "NoNumber", "NoNet", "NoFamily", "NoText", "NotTogether", "Crossing", "Overused", "TooMany", "MOST_PLACES", "MOST_ROADS", "is_integer", "is_between", "is_set", "in_order", "sets_below"]) ++ (show List Str from ["have_common", "spread", "HEAD", "net_lines", "digit_in", "row_in", "parts_in", "is_road", "together_with", "Net", "need_net", "is_closed", "is_a_cut", "roads_into", "cuts_of", "do_cross", "MOST_CUTS", "need_family", "uses_of", "uses"]) ++ (show List Str from ["first_crossing", "uncrossed", "sides_of", "halves", "meets_all", "rows_of", "is_needed", "joins_of", "price_of", "least_price", "packing", "apart", "_law_cell_at", "_law_pen", "_law_draw", "_law_sets", "_law_road", "_law_net", "_law_text", "_law_built"]) ++ (show List Str from ["_law_is_closed", "_law_cuts", "_law_into", "_law_uses", "_law_do_cross", "_law_pick", "_law_ordered", "_law_first_cross", "_law_uncrossed", "_law_calm", "_law_right"])
abbrev R : PySem.W.OpenRow := PySem.W.OpenLaw.row PySem.Challenge.rw_onewaycuts_k44_whole_halves_and_apart
abbrev hk : PySem.W.Hook := hookO fa fn
def ob (s : PySem.W.SharedT) : He.AlD × Bool := obsO fa fn (HandSHeadRun.getT s)
theorem ob_eq (s : PySem.W.SharedT) : ob s = hk.obs s.abs := obsO_eq (HandSHeadRun.getT_eq s)
/-! ### the run, in two looks at its end -/
abbrev kOf (s : PySem.W.SharedT) : PySem.W.Frag := He.frG (HandSHeadRun.getT s) addrs
noncomputable abbrev atEnd (w : World) (os : OsState) : Option PySem.W.SharedT := HandSHeadRun.endF (HandSHeadRun.stepQ (HandSHeadRun.denQ HandSHeadRun.tabQ) R.prog w) 6000 R.prog w os
abbrev qW : Program := PySem.W.view R.prog [78]
theorem run1 (w : World) (os : OsState) : (atEnd w os).map (fun s => (HandSHeadRun.looksF R.prog (PySem.W.boot_heap w.params) s.abs, HandSHeadRun.seenQ qW loose (importedModules R.prog.main.body) (fun s => PySem.W.xlAt qW [] s && PySem.W.recOk R.toRowW.records s) s.abs, He5.obsA fa1 fn1 (kOf s))) = some (true, PySem.W.openGood qW loose, He5.valA fn1) := by
  kernel_rfl
theorem run2 (w : World) (os : OsState) : (atEnd w os).map (fun s => (He5.obsA fa2 fn2 (kOf s), exB (kOf s))) = some (He5.valA fn2, true) := by
  kernel_rfl
theorem obsA_app {K : PySem.W.Frag} {a1 a2 : List He.Fa} {n1 n2 : List He5.DefA} (h1 : He5.obsA a1 n1 K = He5.valA n1) (h2 : He5.obsA a2 n2 K = He5.valA n2) : He5.obsA (a1 ++ a2) (n1 ++ n2) K = He5.valA (n1 ++ n2) := by
  unfold He5.obsA He5.valA at *
  obtain ⟨p1, q1⟩ := Prod.mk.inj h1
  obtain ⟨p2, q2⟩ := Prod.mk.inj h2
  obtain ⟨r1, s1⟩ := Bool.and_eq_true_iff.mp p1
  obtain ⟨r2, s2⟩ := Bool.and_eq_true_iff.mp p2
  rw [List.all_append, List.all_append, List.map_append, List.map_append, r1, s1, r2, s2, q1, q2]
  rfl
theorem run (w : World) : HandSHeadRun.RunEq R qW hk ob 6000 loose w := by
  intro os
  obtain ⟨s, e, h1⟩ := Option.map_eq_some_iff.mp (run1 w os)
  have h2 := run2 w os
  rw [e] at h2
  obtain ⟨a1, a2⟩ := Prod.mk.inj h1
  obtain ⟨a2, a3⟩ := Prod.mk.inj a2
  obtain ⟨b1, b2⟩ := Prod.mk.inj (Option.some.inj h2)
  show (atEnd w os).map _ = _
  rw [e, Option.map_some]
  exact congrArg some (Prod.ext a1 (Prod.ext a2 (Prod.ext (obsA_app a3 b1) b2)))
end Ow
set_option maxHeartbeats 4000000
-- OwA
/-! Plain mathematics 1: cuts and joins, by Lovasz: if a packing of twice the weights falls into two packings of the weights, for all weights, then the least weight of a transversal is the greatest number of a packing. -/
namespace Ow

/-- the sum of f over 0, .., m - 1 -/
def sumN (f : Nat → Nat) : Nat → Nat
  | 0 => 0
  | m + 1 => sumN f m + f m
theorem sumN_mono {f g : Nat → Nat} : ∀ {m : Nat}, (∀ e, e < m → f e ≤ g e) → sumN f m ≤ sumN g m
  | 0, _ => Nat.le_refl _
  | m + 1, h => by
    have h1 := sumN_mono (m := m) fun e he => h e (by omega)
    have h2 := h m (by omega)
    show sumN f m + f m ≤ sumN g m + g m
    omega
theorem sumN_congr {f g : Nat → Nat} {m : Nat} (h : ∀ e, e < m → f e = g e) : sumN f m = sumN g m :=
  Nat.le_antisymm (sumN_mono fun e he => Nat.le_of_eq (h e he)) (sumN_mono fun e he => Nat.le_of_eq (h e he).symm)
theorem sumN_lt {f g : Nat → Nat} : ∀ {m : Nat}, (∀ e, e < m → f e ≤ g e) → (∃ b, b < m ∧ f b < g b) → sumN f m < sumN g m
  | 0, _, ⟨b, hb, _⟩ => absurd hb (by omega)
  | m + 1, h, ⟨b, hb, hl⟩ => by
    have h1 := sumN_mono (m := m) fun e he => h e (by omega)
    have h2 := h m (by omega)
    show sumN f m + f m < sumN g m + g m
    by_cases e : b = m
    · subst e
      omega
    · have h3 := sumN_lt (m := m) (fun e he => h e (by omega)) ⟨b, by omega, hl⟩
      omega
theorem sumN_add (f g : Nat → Nat) : ∀ m : Nat, sumN (fun e => f e + g e) m = sumN f m + sumN g m
  | 0 => rfl
  | m + 1 => by
    show sumN (fun e => f e + g e) m + (f m + g m) = (sumN f m + f m) + (sumN g m + g m)
    rw [sumN_add f g m]
    omega
theorem sumN_zero : ∀ m : Nat, sumN (fun _ => 0) m = 0
  | 0 => rfl
  | m + 1 => by
    show sumN (fun _ => 0) m + 0 = 0
    rw [sumN_zero m]
theorem sumN_one {b : Nat} (v : Nat) : ∀ {m : Nat}, b < m → sumN (fun e => if e = b then v else 0) m = v
  | 0, h => absurd h (by omega)
  | m + 1, h => by
    show sumN (fun e => if e = b then v else 0) m + (if m = b then v else 0) = v
    by_cases e : m = b
    · subst e
      rw [if_pos rfl, sumN_congr (g := fun _ => 0) fun e he => if_neg (by omega), sumN_zero]
      omega
    · rw [if_neg e, sumN_one v (by omega)]
      omega

/-- a hypergraph: m points, sets (those of C), each of which hits a point -/
structure Hyg (α : Type) where
  m : Nat
  C : α → Prop
  hit : α → Nat → Bool
  ne : ∀ c, C c → ∃ e, e < m ∧ hit c e = true

section
variable {α : Type} (G : Hyg α)
def use (F : List α) (e : Nat) : Nat := F.countP fun c => G.hit c e
def Pk (w : Nat → Nat) (F : List α) : Prop := (∀ c, c ∈ F → G.C c) ∧ ∀ e, e < G.m → use G F e ≤ w e
def PkN (w : Nat → Nat) (k : Nat) : Prop := ∃ F, Pk G w F ∧ F.length = k
def Tr (T : Nat → Bool) : Prop := ∀ c, G.C c → ∃ e, e < G.m ∧ G.hit c e = true ∧ T e = true
def wt (w : Nat → Nat) (T : Nat → Bool) : Nat := sumN (fun e => if T e = true then w e else 0) G.m
def Half : Prop := ∀ (w : Nat → Nat) (F : List α), Pk G (fun e => 2 * w e) F → ∃ F1 F2, Pk G w F1 ∧ Pk G w F2 ∧ F.length ≤ F1.length + F2.length
variable {G}

theorem use_sub {F F' : List α} (h : F'.Sublist F) (e : Nat) : use G F' e ≤ use G F e := h.countP_le
theorem use_app (F F' : List α) (e : Nat) : use G (F ++ F') e = use G F e + use G F' e := List.countP_append
theorem Pk.mono {w w' : Nat → Nat} {F : List α} (h : Pk G w F) (hw : ∀ e, e < G.m → w e ≤ w' e) : Pk G w' F := ⟨h.1, fun e he => Nat.le_trans (h.2 e he) (hw e he)⟩
theorem Pk.sub {w : Nat → Nat} {F F' : List α} (h : Pk G w F) (s : F'.Sublist F) : Pk G w F' := ⟨fun c hc => h.1 c (s.subset hc), fun e he => Nat.le_trans (use_sub s e) (h.2 e he)⟩
theorem PkN.mono {w w' : Nat → Nat} {k : Nat} (h : PkN G w k) (hw : ∀ e, e < G.m → w e ≤ w' e) : PkN G w' k := by
  obtain ⟨F, p, l⟩ := h
  exact ⟨F, p.mono hw, l⟩
theorem PkN.less {w : Nat → Nat} {k j : Nat} (h : PkN G w k) (hj : j ≤ k) : PkN G w j := by
  obtain ⟨F, p, l⟩ := h
  exact ⟨F.take j, p.sub (List.take_sublist j F), by rw [List.length_take]; omega⟩
theorem PkN.zero (w : Nat → Nat) : PkN G w 0 := ⟨[], ⟨fun _ h => (nomatch h), fun _ _ => Nat.zero_le _⟩, rfl⟩
theorem len_le_use : ∀ F : List α, (∀ c, c ∈ F → G.C c) → F.length ≤ sumN (use G F) G.m
  | [], _ => Nat.zero_le _
  | c :: F, h => by
    have ih := len_le_use F fun d hd => h d (List.mem_cons_of_mem _ hd)
    obtain ⟨b, hb, hc⟩ := G.ne c (h c List.mem_cons_self)
    have e : sumN (use G F) G.m < sumN (use G (c :: F)) G.m := by
      refine sumN_lt (fun e he => use_sub (List.sublist_cons_self c F) e) ⟨b, hb, ?_⟩
      show F.countP _ < (c :: F).countP _
      rw [List.countP_cons_of_pos (p := fun c => G.hit c b) (l := F) (a := c) hc]
      exact Nat.lt_succ_self _
    rw [List.length_cons]
    omega
theorem PkN.bound {w : Nat → Nat} {k : Nat} (h : PkN G w k) : k ≤ sumN w G.m := by
  obtain ⟨F, p, rfl⟩ := h
  exact Nat.le_trans (len_le_use F p.1) (sumN_mono p.2)

theorem greatest {P : Nat → Prop} {B : Nat} (h0 : P 0) (hB : ∀ k, P k → k ≤ B) : ∃ k, P k ∧ ¬ P (k + 1) := by
  refine Classical.byContradiction fun n => ?_
  have all : ∀ k, P k := fun k => by
    induction k with
    | zero => exact h0
    | succ k ih => exact Classical.byContradiction fun q => n ⟨k, ih, q⟩
  have := hB _ (all (B + 1))
  omega

/-- w with n at b -/
def setw (w : Nat → Nat) (b n : Nat) : Nat → Nat := fun e => if e = b then n else w e
theorem setw_self (w : Nat → Nat) (b n : Nat) : setw w b n b = n := if_pos rfl
theorem setw_ne (w : Nat → Nat) {b e : Nat} (n : Nat) (h : e ≠ b) : setw w b n e = w e := if_neg h
theorem setw_same (w : Nat → Nat) (b : Nat) : setw w b (w b) = w := by
  funext e
  unfold setw
  split
  · rename_i h
    rw [h]
  · rfl
theorem setw_setw (w : Nat → Nat) (b i j : Nat) : setw (setw w b i) b j = setw w b j := by
  funext e
  unfold setw
  split <;> rfl

/-- one unit less at b costs one set at most -/
theorem drop_one {w : Nat → Nat} {b n k : Nat} (h : PkN G (setw w b (n + 1)) k) : PkN G (setw w b n) (k - 1) := by
  obtain ⟨F, p, rfl⟩ := h
  by_cases q : use G F b ≤ n
  · refine PkN.less ⟨F, ⟨p.1, fun e he => ?_⟩, rfl⟩ (Nat.sub_le _ 1)
    by_cases eb : e = b
    · subst eb
      rw [setw_self]
      exact q
    · have := p.2 e he
      rw [setw_ne _ _ eb] at this ⊢
      exact this
  · have hpos : 0 < F.countP fun c => G.hit c b := by
      have : ¬ F.countP (fun c => G.hit c b) ≤ n := q
      omega
    obtain ⟨c, hc, hh⟩ := List.countP_pos_iff.mp hpos
    obtain ⟨F1, F2, rfl⟩ := List.append_of_mem hc
    have s : (F1 ++ F2).Sublist (F1 ++ c :: F2) := (List.Sublist.refl F1).append (List.sublist_cons_self c F2)
    refine ⟨F1 ++ F2, ⟨(p.sub s).1, fun e he => ?_⟩, by simp⟩
    by_cases eb : e = b
    · subst eb
      have h1 := p.2 e he
      rw [setw_self] at h1 ⊢
      rw [use_app] at h1 ⊢
      have h2 : use G (c :: F2) e = use G F2 e + 1 := List.countP_cons_of_pos (p := fun c => G.hit c e) (l := F2) (a := c) hh
      omega
    · have h1 := (p.sub s).2 e he
      rw [setw_ne _ _ eb] at h1 ⊢
      exact h1
theorem drops {w : Nat → Nat} {b n k : Nat} (h : PkN G (setw w b n) k) : ∀ j, j ≤ n → PkN G (setw w b (n - j)) (k - j)
  | 0, _ => h
  | j + 1, hj => by
    have ih := drops h j (by omega)
    have e : n - j = (n - (j + 1)) + 1 := by omega
    rw [e] at ih
    have := drop_one ih
    rw [show k - j - 1 = k - (j + 1) by omega] at this
    exact this
theorem middle (hH : Half G) {w : Nat → Nat} {b n k : Nat} (h1 : PkN G (setw w b (n + 2)) (k + 1)) (h2 : PkN G (setw w b n) k) : PkN G (setw w b (n + 1)) (k + 1) := by
  obtain ⟨F, p, l⟩ := h1
  obtain ⟨F', p', l'⟩ := h2
  have pp : Pk G (fun e => 2 * setw w b (n + 1) e) (F ++ F') := by
    refine ⟨fun c hc => (List.mem_append.mp hc).elim (p.1 c) (p'.1 c), fun e he => ?_⟩
    have q := p.2 e he
    have q' := p'.2 e he
    rw [use_app]
    show _ ≤ 2 * setw w b (n + 1) e
    by_cases eb : e = b
    · subst eb
      rw [setw_self] at q q' ⊢
      omega
    · rw [setw_ne _ _ eb] at q q' ⊢
      omega
  obtain ⟨A, B, pa, pb, hl⟩ := hH _ _ pp
  rw [List.length_append] at hl
  by_cases hA : k + 1 ≤ A.length
  · exact PkN.less ⟨A, pa, rfl⟩ hA
  · exact PkN.less ⟨B, pb, rfl⟩ (by omega)
theorem descend (hH : Half G) {w : Nat → Nat} {b n k : Nat} (h0 : PkN G (setw w b n) k) (h1 : ¬ PkN G (setw w b n) (k + 1)) (h2 : PkN G (setw w b (n + 1)) (k + 1)) :
    ∀ j, j ≤ n → j ≤ k ∧ ¬ PkN G (setw w b (n - j)) (k - j + 1)
  | 0, _ => ⟨Nat.zero_le _, h1⟩
  | j + 1, hj => by
    obtain ⟨jk, ih⟩ := descend hH h0 h1 h2 j (by omega)
    have up : PkN G (setw w b (n - j + 1)) (k - j + 1) := by
      by_cases e : j = 0
      · subst e
        exact h2
      · have := drops h0 (j - 1) (by omega)
        rw [show n - (j - 1) = n - j + 1 by omega, show k - (j - 1) = k - j + 1 by omega] at this
        exact this
    have key : ¬ PkN G (setw w b (n - (j + 1))) (k - j) := fun q => by
      refine ih ?_
      have e : n - j = n - (j + 1) + 1 := by omega
      rw [e] at up ⊢
      exact middle hH up q
    have pos : j + 1 ≤ k := by
      refine Classical.byContradiction fun hk => key ?_
      rw [show k - j = 0 by omega]
      exact PkN.zero _
    refine ⟨pos, ?_⟩
    rw [show k - (j + 1) + 1 = k - j by omega]
    exact key

/-- going up from w to twice w, step by step, one comes to a step that gives one set more -/
theorem path {w : Nat → Nat} {k : Nat} (h2 : PkN G (fun e => 2 * w e) (k + 1)) : ∀ (d : Nat) (v : Nat → Nat), sumN (fun e => 2 * w e - v e) G.m = d → (∀ e, e < G.m → w e ≤ v e ∧ v e ≤ 2 * w e) → ¬ PkN G v (k + 1) →
    ∃ (u : Nat → Nat) (b : Nat), b < G.m ∧ 1 ≤ w b ∧ (∀ e, e < G.m → w e ≤ u e ∧ u e ≤ 2 * w e) ∧ ¬ PkN G u (k + 1) ∧ PkN G (setw u b (u b + 1)) (k + 1) := fun d => by
  induction d using Nat.strongRecOn with
  | _ d ih =>
    intro v hd hv hn
    by_cases all : ∀ e, e < G.m → 2 * w e ≤ v e
    · exact absurd (h2.mono all) hn
    · obtain ⟨b, hb⟩ := Classical.not_forall.mp all
      obtain ⟨hbm, hlt⟩ : b < G.m ∧ ¬ 2 * w b ≤ v b := by
        refine ⟨Classical.byContradiction fun q => hb fun z => absurd z q, fun q => hb fun _ => q⟩
      have hv' := hv b hbm
      by_cases q : PkN G (setw v b (v b + 1)) (k + 1)
      · exact ⟨v, b, hbm, by omega, hv, hn, q⟩
      · refine ih _ ?_ (setw v b (v b + 1)) rfl (fun e he => ?_) q
        · rw [← hd]
          refine sumN_lt (fun e he => ?_) ⟨b, hbm, ?_⟩
          · by_cases eb : e = b
            · subst eb
              rw [setw_self]
              omega
            · rw [setw_ne _ _ eb]
              exact Nat.le_refl _
          · rw [setw_self]
            omega
        · by_cases eb : e = b
          · subst eb
            rw [setw_self]
            omega
          · rw [setw_ne _ _ eb]
            exact hv e he

def supp (G : Hyg α) (w : Nat → Nat) : Nat := sumN (fun e => if w e = 0 then 0 else 1) G.m

/-- THE THEOREM of Lucchesi and Younger, out of halves -/
theorem minmax (hH : Half G) : ∀ (n : Nat) (w : Nat → Nat), supp G w = n → ∃ F T, Pk G w F ∧ Tr G T ∧ wt G w T ≤ F.length := fun n => by
  induction n using Nat.strongRecOn with
  | _ n ih =>
    intro w hs
    obtain ⟨k, hk, hk1⟩ := greatest (P := PkN G w) (B := sumN w G.m) (PkN.zero w) fun k h => h.bound
    by_cases k0 : k = 0
    · subst k0
      refine ⟨[], fun e => decide (w e = 0), ⟨fun _ h => (nomatch h), fun _ _ => Nat.zero_le _⟩, fun c hc => ?_, ?_⟩
      · refine Classical.byContradiction fun q => hk1 ⟨[c], ⟨fun d hd => by rw [List.mem_singleton.mp hd]; exact hc, fun e he => ?_⟩, rfl⟩
        cases hh : G.hit c e with
        | false =>
          have : use G [c] e = 0 := by
            unfold use
            rw [List.countP_cons_of_neg (by rw [hh]; simp)]
            rfl
          omega
        | true =>
          have h1 : w e ≠ 0 := fun z => q ⟨e, he, hh, decide_eq_true z⟩
          have : use G [c] e = 1 := by
            unfold use
            rw [List.countP_cons_of_pos (p := fun c => G.hit c e) (l := []) (a := c) hh]
            rfl
          omega
      · unfold wt
        rw [sumN_congr (g := fun _ => 0) fun e _ => by
          split
          · rename_i h
            exact of_decide_eq_true h
          · rfl, sumN_zero]
        exact Nat.zero_le _
    · have h2 : PkN G (fun e => 2 * w e) (k + 1) := by
        obtain ⟨F, p, l⟩ := hk
        refine PkN.less (k := k + k) ⟨F ++ F, ⟨fun c hc => (List.mem_append.mp hc).elim (p.1 c) (p.1 c), fun e he => ?_⟩, by rw [List.length_append, l]⟩ (by omega)
        have := p.2 e he
        rw [use_app]
        show _ ≤ 2 * w e
        omega
      obtain ⟨u, b, hb, wb, hu, n1, n2⟩ := path h2 _ w rfl (fun e _ => by omega) hk1
      have uk : PkN G u k := hk.mono fun e he => (hu e he).1
      have hub := hu b hb
      have ds := descend hH (w := u) (b := b) (n := u b) (k := k) (by rw [setw_same]; exact uk) (by rw [setw_same]; exact n1) n2 (u b) (Nat.le_refl _)
      obtain ⟨jk, nk⟩ := ds
      rw [Nat.sub_self] at nk
      have less : supp G (setw u b 0) < n := by
        rw [← hs]
        refine sumN_lt (fun e he => ?_) ⟨b, hb, ?_⟩
        · have he' := hu e he
          by_cases eb : e = b
          · subst eb
            rw [setw_self, if_pos rfl]
            exact Nat.zero_le _
          · rw [setw_ne _ _ eb]
            by_cases z : w e = 0
            · rw [if_pos (show u e = 0 by omega)]
              exact Nat.zero_le _
            · rw [if_neg z]
              split <;> omega
        · rw [setw_self, if_pos rfl, if_neg (show ¬ w b = 0 by omega)]
          exact Nat.one_pos
      obtain ⟨F0, T, p0, tr, hT⟩ := ih _ less (setw u b 0) rfl
      have h3 : F0.length ≤ k - u b := by
        refine Classical.byContradiction fun q => nk (PkN.less ⟨F0, p0, rfl⟩ (by omega))
      obtain ⟨F, p, l⟩ := hk
      refine ⟨F, fun e => decide (e = b) || T e, p, fun c hc => ?_, ?_⟩
      · obtain ⟨e, he, h1, h2⟩ := tr c hc
        exact ⟨e, he, h1, (by show (decide (e = b) || T e) = true; rw [h2, Bool.or_true])⟩
      · have s1 : wt G w (fun e => decide (e = b) || T e) ≤ sumN (fun e => (if T e = true then setw u b 0 e else 0) + (if e = b then u b else 0)) G.m := by
          refine sumN_mono fun e he => ?_
          have he' := hu e he
          by_cases eb : e = b
          · subst eb
            rw [if_pos rfl]
            split
            · omega
            · omega
          · rw [if_neg eb, setw_ne _ _ eb]
            show (if (decide (e = b) || T e) = true then w e else 0) ≤ _
            rw [decide_eq_false eb, Bool.false_or]
            split <;> omega
        rw [sumN_add, sumN_one _ hb] at s1
        have s2 : sumN (fun e => if T e = true then setw u b 0 e else 0) G.m ≤ F0.length := hT
        omega
end
end Ow
-- OwB
/-! Plain mathematics 2: sets of places as ascending lists; closed sets; uncrossing; the colouring of a family without crossings. -/
namespace Ow
open Classical

/-! ### lists -/
theorem nodup_len {α : Type} : ∀ {l D : List α}, l.Nodup → (∀ x, x ∈ l → x ∈ D) → l.length ≤ D.length
  | [], _, _, _ => Nat.zero_le _
  | a :: l, D, h, s => by
    obtain ⟨h1, h2⟩ := List.nodup_cons.mp h
    obtain ⟨A, B, rfl⟩ := List.append_of_mem (s a List.mem_cons_self)
    have := nodup_len (l := l) (D := A ++ B) h2 fun x hx => by
      have := s x (List.mem_cons_of_mem _ hx)
      rcases List.mem_append.mp this with q | q
      · exact List.mem_append_left _ q
      · rcases List.mem_cons.mp q with e | q
        · subst e
          exact absurd hx h1
        · exact List.mem_append_right _ q
    rw [List.length_append] at this
    rw [List.length_cons, List.length_append, List.length_cons]
    omega
def wsum {α : Type} (g : α → Nat) (F : List α) : Nat := (F.map g).sum
theorem wsum_nil {α : Type} (g : α → Nat) : wsum g [] = 0 := rfl
theorem wsum_cons {α : Type} (g : α → Nat) (a : α) (F : List α) : wsum g (a :: F) = g a + wsum g F := by
  unfold wsum
  rw [List.map_cons, List.sum_cons]
theorem wsum_set {α : Type} (g : α → Nat) : ∀ {F : List α} {i : Nat} {a : α} (x : α), F[i]? = some a → wsum g (F.set i x) + g a = wsum g F + g x
  | [], i, a, x, h => by simp at h
  | b :: F, 0, a, x, h => by
    have e : b = a := Option.some.inj h
    subst e
    show wsum g (x :: F) + g b = wsum g (b :: F) + g x
    rw [wsum_cons, wsum_cons]
    omega
  | b :: F, i + 1, a, x, h => by
    have ih := wsum_set g (F := F) (i := i) (a := a) x h
    show wsum g (b :: F.set i x) + g a = wsum g (b :: F) + g x
    rw [wsum_cons, wsum_cons]
    omega
theorem wsum_perm {α : Type} (g : α → Nat) {F F' : List α} (h : F.Perm F') : wsum g F = wsum g F' := by
  induction h with
  | nil => rfl
  | cons x _ ih => rw [wsum_cons, wsum_cons, ih]
  | swap x y l =>
    rw [wsum_cons, wsum_cons, wsum_cons, wsum_cons]
    omega
  | trans _ _ h1 h2 => exact h1.trans h2
theorem countP_wsum {α : Type} (p : α → Bool) : ∀ F : List α, F.countP p = wsum (fun c => (p c).toNat) F
  | [] => rfl
  | a :: F => by
    rw [wsum_cons, ← countP_wsum p F]
    cases h : p a with
    | true => rw [List.countP_cons_of_pos h]; exact Nat.add_comm _ _
    | false => rw [List.countP_cons_of_neg (by rw [h]; simp)]; exact (Nat.zero_add _).symm
theorem wsum_le {α : Type} {g : α → Nat} {B : Nat} : ∀ {F : List α}, (∀ c, c ∈ F → g c ≤ B) → wsum g F ≤ F.length * B
  | [], _ => Nat.zero_le _
  | a :: F, h => by
    have ih := wsum_le (F := F) fun c hc => h c (List.mem_cons_of_mem _ hc)
    have h1 := h a List.mem_cons_self
    rw [wsum_cons, List.length_cons, Nat.add_mul, Nat.one_mul]
    omega
theorem mem_set_or {α : Type} {F : List α} {i : Nat} {x y : α} (h : y ∈ F.set i x) : y ∈ F ∨ y = x := List.mem_or_eq_of_mem_set h

/-! ### ascending lists -/
abbrev Pl := List Int
abbrev Asc (p : Pl) : Prop := p.Pairwise (· < ·)
theorem Asc.nodup {p : Pl} (h : Asc p) : p.Nodup := List.Pairwise.imp (fun h => Int.ne_of_lt h) h
theorem asc_eq : ∀ {p q : Pl}, Asc p → Asc q → (∀ x, x ∈ p ↔ x ∈ q) → p = q
  | [], [], _, _, _ => rfl
  | [], b :: q, _, _, h => by
    have := (h b).mpr List.mem_cons_self
    cases this
  | a :: p, [], _, _, h => by
    have := (h a).mp List.mem_cons_self
    cases this
  | a :: p, b :: q, hp, hq, h => by
    obtain ⟨p1, p2⟩ := List.pairwise_cons.mp hp
    obtain ⟨q1, q2⟩ := List.pairwise_cons.mp hq
    have e : a = b := by
      rcases List.mem_cons.mp ((h a).mp List.mem_cons_self) with e | ha
      · exact e
      · rcases List.mem_cons.mp ((h b).mpr List.mem_cons_self) with e | hb
        · exact e.symm
        · have := q1 a ha
          have := p1 b hb
          omega
    subst e
    have : p = q := asc_eq p2 q2 fun x => by
      constructor
      · intro hx
        rcases List.mem_cons.mp ((h x).mp (List.mem_cons_of_mem _ hx)) with e | hx'
        · subst e
          exact absurd (p1 x hx) (Int.lt_irrefl _)
        · exact hx'
      · intro hx
        rcases List.mem_cons.mp ((h x).mpr (List.mem_cons_of_mem _ hx)) with e | hx'
        · subst e
          exact absurd (q1 x hx) (Int.lt_irrefl _)
        · exact hx'
    rw [this]
/-- 0, 1, .., n - 1 -/
def upto (n : Nat) : Pl := (List.range n).map Int.ofNat
theorem mem_upto {n : Nat} {x : Int} : x ∈ upto n ↔ 0 ≤ x ∧ x < (n : Int) := by
  unfold upto
  rw [List.mem_map]
  constructor
  · rintro ⟨i, hi, rfl⟩
    have := List.mem_range.mp hi
    show 0 ≤ (i : Int) ∧ (i : Int) < n
    omega
  · rintro ⟨h1, h2⟩
    refine ⟨x.toNat, List.mem_range.mpr (by omega), ?_⟩
    show ((x.toNat : Nat) : Int) = x
    omega
theorem asc_upto (n : Nat) : Asc (upto n) := by
  unfold upto
  rw [Asc, List.pairwise_map]
  refine List.Pairwise.imp ?_ (List.pairwise_lt_range (n := n))
  intro a b h
  show (a : Int) < (b : Int)
  omega
theorem len_upto (n : Nat) : (upto n).length = n := by
  unfold upto
  rw [List.length_map, List.length_range]
theorem asc_full {n : Nat} {p : Pl} (h : Asc p) (r : ∀ x, x ∈ p → 0 ≤ x ∧ x < (n : Int)) : p.length ≤ n ∧ (p.length = n → ∀ x : Int, 0 ≤ x → x < n → x ∈ p) := by
  constructor
  · have := nodup_len (D := upto n) h.nodup fun x hx => mem_upto.mpr (r x hx)
    rw [len_upto] at this
    exact this
  · intro e x h0 h1
    refine Classical.byContradiction fun q => ?_
    have := nodup_len (l := x :: p) (D := upto n) (List.nodup_cons.mpr ⟨q, h.nodup⟩) fun y hy => by
      rcases List.mem_cons.mp hy with e | hy
      · subst e
        exact mem_upto.mpr ⟨h0, h1⟩
      · exact mem_upto.mpr (r y hy)
    rw [len_upto, List.length_cons] at this
    omega

/-! ### nets and cuts -/
abbrev Road := Int × Int
structure IsCut (n : Nat) (rs : List Road) (p : Pl) : Prop where
  asc : Asc p
  rng : ∀ x, x ∈ p → 0 ≤ x ∧ x < (n : Int)
  ne : 0 < p.length
  lt : p.length < n
  cl : ∀ r, r ∈ rs → r.1 ∈ p → r.2 ∈ p
def hitR (r : Road) (p : Pl) : Bool := decide (r.1 ∉ p) && decide (r.2 ∈ p)
def hit (rs : List Road) (p : Pl) (e : Nat) : Bool := match rs[e]? with
  | some r => hitR r p
  | none => false
theorem hit_at {rs : List Road} {e : Nat} {r : Road} (h : rs[e]? = some r) (p : Pl) : hit rs p e = hitR r p := by
  unfold hit
  rw [h]
theorem hit_lt {rs : List Road} {e : Nat} {p : Pl} (h : hit rs p e = true) : e < rs.length := by
  unfold hit at h
  cases q : rs[e]? with
  | none =>
    rw [q] at h
    cases h
  | some r => exact (List.getElem?_eq_some_iff.mp q).1
theorem hitR_iff {r : Road} {p : Pl} : hitR r p = true ↔ r.1 ∉ p ∧ r.2 ∈ p := by
  unfold hitR
  rw [Bool.and_eq_true, decide_eq_true_eq, decide_eq_true_eq]

def common (p q : Pl) : Pl := p.filter fun x => decide (x ∈ q)
def ucount (p q : Pl) : Nat := p.length + (q.filter fun x => decide (x ∉ p)).length
/-- whether two sets cross -/
def crossB (n : Nat) (p q : Pl) : Bool := !(decide (common p q = []) || decide (ucount p q = n)) && (decide ((common p q).length < p.length) && decide ((common p q).length < q.length))
theorem mem_common {p q : Pl} {x : Int} : x ∈ common p q ↔ x ∈ p ∧ x ∈ q := by
  unfold common
  rw [List.mem_filter, decide_eq_true_eq]
theorem asc_common {p : Pl} (q : Pl) (h : Asc p) : Asc (common p q) := List.Pairwise.filter _ h
theorem common_comm {p q : Pl} (hp : Asc p) (hq : Asc q) : common p q = common q p := asc_eq (asc_common q hp) (asc_common p hq) fun x => by
  rw [mem_common, mem_common]
  exact And.comm
theorem len_split (q : Pl) : ∀ p : Pl, (p.filter fun x => decide (x ∈ q)).length + (p.filter fun x => decide (x ∉ q)).length = p.length
  | [] => rfl
  | a :: p => by
    have ih := len_split q p
    by_cases h : a ∈ q
    · rw [List.filter_cons_of_pos (by simpa using h), List.filter_cons_of_neg (by simpa using h), List.length_cons, List.length_cons]
      omega
    · rw [List.filter_cons_of_neg (by simpa using h), List.filter_cons_of_pos (by simpa using h), List.length_cons, List.length_cons]
      omega
theorem ucount_common {p q : Pl} (hp : Asc p) (hq : Asc q) : ucount p q + (common p q).length = p.length + q.length := by
  have := len_split p q
  have e : (q.filter fun x => decide (x ∈ p)).length = (common p q).length := by
    rw [common_comm hp hq]
    rfl
  unfold ucount
  omega
theorem ucount_comm {p q : Pl} (hp : Asc p) (hq : Asc q) : ucount p q = ucount q p := by
  have h1 := ucount_common hp hq
  have h2 := ucount_common hq hp
  rw [common_comm hp hq] at h1
  omega
theorem cross_comm {n : Nat} {p q : Pl} (hp : Asc p) (hq : Asc q) : crossB n p q = crossB n q p := by
  unfold crossB
  rw [common_comm hp hq, ucount_comm hp hq, Bool.and_comm (decide ((common q p).length < p.length))]
/-- a list of all of both, each once, is as long as ucount says -/
theorem ucount_len {p q u : Pl} (hp : Asc p) (hq : Asc q) (hu : u.Nodup) (m : ∀ x, x ∈ u ↔ x ∈ p ∨ x ∈ q) : u.length = ucount p q := by
  have nd : (p ++ q.filter fun x => decide (x ∉ p)).Nodup := by
    rw [List.nodup_append]
    refine ⟨hp.nodup, List.Pairwise.filter _ hq.nodup, fun a ha b hb e => ?_⟩
    subst e
    have := (List.mem_filter.mp hb).2
    rw [decide_eq_true_eq] at this
    exact this ha
  have mm : ∀ x, x ∈ (p ++ q.filter fun x => decide (x ∉ p)) ↔ x ∈ p ∨ x ∈ q := fun x => by
    rw [List.mem_append, List.mem_filter, decide_eq_true_eq]
    constructor
    · rintro (h | ⟨h, _⟩)
      · exact .inl h
      · exact .inr h
    · intro h
      by_cases hx : x ∈ p
      · exact .inl hx
      · exact .inr ⟨h.resolve_left hx, hx⟩
  have h1 := nodup_len hu fun x hx => (mm x).mpr ((m x).mp hx)
  have h2 := nodup_len nd fun x hx => (m x).mpr ((mm x).mp hx)
  have e : (p ++ q.filter fun x => decide (x ∉ p)).length = ucount p q := List.length_append
  omega
theorem common_sub {p q : Pl} (h : ¬ (common p q).length < p.length) : ∀ x, x ∈ p → x ∈ q := fun x hx => by
  have := len_split q p
  have e : (common p q).length = (p.filter fun x => decide (x ∈ q)).length := rfl
  have z : (p.filter fun x => decide (x ∉ q)).length = 0 := by omega
  have z := List.eq_nil_of_length_eq_zero z
  refine Classical.byContradiction fun hn => ?_
  have : x ∈ p.filter fun x => decide (x ∉ q) := List.mem_filter.mpr ⟨hx, decide_eq_true hn⟩
  rw [z] at this
  cases this
/-- what it says that two sets do not cross -/
theorem no_cross {n : Nat} {rs : List Road} {p q : Pl} (hp : IsCut n rs p) (hq : IsCut n rs q) (h : crossB n p q = false) :
    (∀ x, x ∈ p → x ∉ q) ∨ (∀ x : Int, 0 ≤ x → x < n → x ∈ p ∨ x ∈ q) ∨ (∀ x, x ∈ p → x ∈ q) ∨ (∀ x, x ∈ q → x ∈ p) := by
  unfold crossB at h
  by_cases h1 : common p q = []
  · refine .inl fun x hx hx' => ?_
    have : x ∈ common p q := mem_common.mpr ⟨hx, hx'⟩
    rw [h1] at this
    cases this
  · by_cases h2 : ucount p q = n
    · refine .inr (.inl fun x h0 hn => ?_)
      refine Classical.byContradiction fun c => ?_
      have nd : (x :: (p ++ q.filter fun x => decide (x ∉ p))).Nodup := by
        refine List.nodup_cons.mpr ⟨fun m => ?_, ?_⟩
        · rcases List.mem_append.mp m with m | m
          · exact c (.inl m)
          · exact c (.inr (List.mem_filter.mp m).1)
        · rw [List.nodup_append]
          refine ⟨hp.asc.nodup, List.Pairwise.filter _ hq.asc.nodup, fun a ha b hb e => ?_⟩
          subst e
          have := (List.mem_filter.mp hb).2
          rw [decide_eq_true_eq] at this
          exact this ha
      have := nodup_len (D := upto n) nd fun y hy => by
        rcases List.mem_cons.mp hy with e | hy
        · subst e
          exact mem_upto.mpr ⟨h0, hn⟩
        · rcases List.mem_append.mp hy with hy | hy
          · exact mem_upto.mpr (hp.rng y hy)
          · exact mem_upto.mpr (hq.rng y (List.mem_filter.mp hy).1)
      rw [len_upto, List.length_cons] at this
      have e : (p ++ q.filter fun x => decide (x ∉ p)).length = ucount p q := List.length_append
      omega
    · rw [decide_eq_false h1, decide_eq_false h2] at h
      have h' : (decide ((common p q).length < p.length) && decide ((common p q).length < q.length)) = false := h
      rcases Bool.and_eq_false_iff.mp h' with h3 | h3
      · exact .inr (.inr (.inl (common_sub (of_decide_eq_false h3))))
      · refine .inr (.inr (.inr (common_sub ?_)))
        rw [common_comm hq.asc hp.asc]
        exact of_decide_eq_false h3
structure Crosses (n : Nat) (p q : Pl) : Prop where
  ne : common p q ≠ []
  nu : ucount p q ≠ n
  l1 : (common p q).length < p.length
  l2 : (common p q).length < q.length
theorem crosses_of {n : Nat} {p q : Pl} (h : crossB n p q = true) : Crosses n p q := by
  unfold crossB at h
  simp only [Bool.and_eq_true, Bool.not_eq_true', Bool.or_eq_false_iff, decide_eq_false_iff_not, decide_eq_true_eq] at h
  exact ⟨h.1.1, h.1.2, h.2.1, h.2.2⟩

section
variable {n : Nat} {rs : List Road} {p q u : Pl}
theorem cut_common (hp : IsCut n rs p) (hq : IsCut n rs q) (c : Crosses n p q) : IsCut n rs (common p q) where
  asc := asc_common q hp.asc
  rng := fun x hx => hp.rng x (mem_common.mp hx).1
  ne := by
    cases e : common p q with
    | nil => exact absurd e c.ne
    | cons a r => simp
  lt := Nat.lt_trans c.l1 hp.lt
  cl := fun r hr h => mem_common.mpr ⟨hp.cl r hr (mem_common.mp h).1, hq.cl r hr (mem_common.mp h).2⟩
theorem cut_union (hp : IsCut n rs p) (hq : IsCut n rs q) (c : Crosses n p q) (hu : Asc u) (m : ∀ x, x ∈ u ↔ x ∈ p ∨ x ∈ q) : IsCut n rs u where
  asc := hu
  rng := fun x hx => ((m x).mp hx).elim (hp.rng x) (hq.rng x)
  ne := by
    have h1 := hp.ne
    rw [ucount_len hp.asc hq.asc hu.nodup m]
    unfold ucount
    omega
  lt := by
    have h1 := (asc_full hu fun x hx => ((m x).mp hx).elim (hp.rng x) (hq.rng x)).1
    have h2 := ucount_len hp.asc hq.asc hu.nodup m
    have h3 := c.nu
    omega
  cl := fun r hr h => (m _).mpr (((m _).mp h).elim (fun z => .inl (hp.cl r hr z)) fun z => .inr (hq.cl r hr z))
/-- a road is in the common places' cut and that of both together as often as in the two -/
theorem hit_uncross (hp : IsCut n rs p) (hq : IsCut n rs q) (m : ∀ x, x ∈ u ↔ x ∈ p ∨ x ∈ q) (e : Nat) : (hit rs (common p q) e).toNat + (hit rs u e).toNat = (hit rs p e).toNat + (hit rs q e).toNat := by
  unfold hit
  cases he : rs[e]? with
  | none => rfl
  | some r =>
    have hr : r ∈ rs := List.mem_of_getElem? he
    have c1 := hp.cl r hr
    have c2 := hq.cl r hr
    show (hitR r (common p q)).toNat + (hitR r u).toNat = (hitR r p).toNat + (hitR r q).toNat
    unfold hitR
    simp only [mem_common, m]
    by_cases a1 : r.1 ∈ p <;> by_cases a2 : r.1 ∈ q <;> by_cases a3 : r.2 ∈ p <;> by_cases a4 : r.2 ∈ q <;> simp_all
theorem squares {a b c d : Nat} (h : c + d = a + b) (h1 : c < a) (h2 : c < b) : a * a + b * b < c * c + d * d := by
  obtain ⟨x, rfl⟩ : ∃ x, a = c + (x + 1) := ⟨a - c - 1, by omega⟩
  obtain ⟨y, rfl⟩ : ∃ y, b = c + (y + 1) := ⟨b - c - 1, by omega⟩
  have e : d = c + (x + 1) + (y + 1) := by omega
  subst e
  have h3 : c * c + (c + (x + 1) + (y + 1)) * (c + (x + 1) + (y + 1)) = (c + (x + 1)) * (c + (x + 1)) + (c + (y + 1)) * (c + (y + 1)) + 2 * ((x + 1) * (y + 1)) := by
    simp only [Nat.mul_add, Nat.add_mul, Nat.mul_one, Nat.one_mul, Nat.mul_comm y x, Nat.mul_comm x c, Nat.mul_comm y c]
    omega
  have h4 : 0 < (x + 1) * (y + 1) := Nat.mul_pos (Nat.succ_pos _) (Nat.succ_pos _)
  omega
end

/-! ### families -/
/-- how often a road is in the cuts of a family -/
abbrev useF (rs : List Road) (F : List Pl) (e : Nat) : Nat := F.countP fun p => hit rs p e
def sq (F : List Pl) : Nat := wsum (fun p => p.length * p.length) F
def left (n : Nat) (F : List Pl) : Nat := F.length * (n * n) - sq F
theorem sq_le {n : Nat} {rs : List Road} {F : List Pl} (h : ∀ p, p ∈ F → IsCut n rs p) : sq F ≤ F.length * (n * n) := wsum_le fun p hp => Nat.mul_le_mul (Nat.le_of_lt (h p hp).lt) (Nat.le_of_lt (h p hp).lt)
/-- one step of uncrossing -/
structure Step (n : Nat) (rs : List Road) (F F' : List Pl) : Prop where
  cut : ∀ p, p ∈ F' → IsCut n rs p
  len : F'.length = F.length
  use : ∀ e, useF rs F' e = useF rs F e
  less : left n F' < left n F
theorem uncross_step {n : Nat} {rs : List Road} {F : List Pl} {i j : Nat} {p q u : Pl} (h : ∀ p, p ∈ F → IsCut n rs p) (hij : i ≠ j) (hi : F[i]? = some p) (hj : F[j]? = some q) (c : crossB n p q = true) (hu : Asc u) (m : ∀ x, x ∈ u ↔ x ∈ p ∨ x ∈ q) :
    Step n rs F ((F.set i (common p q)).set j u) := by
  have hp := h p (List.mem_of_getElem? hi)
  have hq := h q (List.mem_of_getElem? hj)
  have cr := crosses_of c
  have hj' : (F.set i (common p q))[j]? = some q := by rw [List.getElem?_set_ne hij]; exact hj
  have cut : ∀ p', p' ∈ (F.set i (common p q)).set j u → IsCut n rs p' := fun p' hp' => by
    rcases mem_set_or hp' with z | z
    · rcases mem_set_or z with z | z
      · exact h p' z
      · subst z
        exact cut_common hp hq cr
    · subst z
      exact cut_union hp hq cr hu m
  have len : ((F.set i (common p q)).set j u).length = F.length := by rw [List.length_set, List.length_set]
  refine ⟨cut, len, fun e => ?_, ?_⟩
  · show List.countP _ _ = List.countP _ _
    rw [countP_wsum, countP_wsum]
    have h1 := wsum_set (fun p => (hit rs p e).toNat) u hj'
    have h2 := wsum_set (fun p => (hit rs p e).toNat) (common p q) hi
    have h3 := hit_uncross hp hq m e
    omega
  · have h1 := wsum_set (fun p : Pl => p.length * p.length) u hj'
    have h2 := wsum_set (fun p : Pl => p.length * p.length) (common p q) hi
    have h3 := squares (a := p.length) (b := q.length) (c := (common p q).length) (d := u.length) (by
      have := ucount_common hp.asc hq.asc
      rw [ucount_len hp.asc hq.asc hu.nodup m]
      omega) cr.l1 cr.l2
    have h4 := sq_le cut
    unfold left
    rw [len] at h4 ⊢
    unfold sq at h4 ⊢
    omega
theorem Step.perm {n : Nat} {rs : List Road} {F F' F'' : List Pl} (s : Step n rs F F') (h : F''.Perm F') : Step n rs F F'' :=
  ⟨fun p hp => s.cut p (h.mem_iff.mp hp), h.length_eq.trans s.len, fun e => (h.countP_eq _).trans (s.use e), by
    have e : left n F'' = left n F' := by
      unfold left sq
      rw [h.length_eq, wsum_perm _ h]
    rw [e]
    exact s.less⟩
abbrev Calm (n : Nat) (F : List Pl) : Prop := F.Pairwise fun p q => crossB n p q = false
theorem calm_perm {n : Nat} {F F' : List Pl} (ha : ∀ p, p ∈ F → Asc p) (h : F.Perm F') (c : Calm n F) : Calm n F' := by
  have c2 : F.Pairwise fun p q => Asc p ∧ Asc q ∧ crossB n p q = false := by
    refine List.Pairwise.imp_of_mem (fun {a b} hA hB z => ⟨ha a hA, ha b hB, z⟩) c
  have c3 := (h.pairwise_iff (R := fun p q => Asc p ∧ Asc q ∧ crossB n p q = false) fun {x y} ⟨a, b, z⟩ => ⟨b, a, by rw [cross_comm b a]; exact z⟩).mp c2
  exact List.Pairwise.imp (fun z => z.2.2) c3
theorem not_pairwise {α : Type} {R : α → α → Prop} : ∀ {F : List α}, ¬ F.Pairwise R → ∃ (i j : Nat) (p q : α), i < j ∧ F[i]? = some p ∧ F[j]? = some q ∧ ¬ R p q
  | [], h => absurd List.Pairwise.nil h
  | a :: F, h => by
    by_cases h1 : ∀ b, b ∈ F → R a b
    · have h2 : ¬ F.Pairwise R := fun z => h (List.pairwise_cons.mpr ⟨h1, z⟩)
      obtain ⟨i, j, p, q, hij, hi, hj, hn⟩ := not_pairwise h2
      exact ⟨i + 1, j + 1, p, q, by omega, hi, hj, hn⟩
    · obtain ⟨b, hb⟩ := Classical.not_forall.mp h1
      have hm : b ∈ F := Classical.byContradiction fun z => hb fun y => absurd y z
      obtain ⟨j, hj⟩ := List.mem_iff_getElem?.mp hm
      exact ⟨0, j + 1, a, b, by omega, rfl, hj, fun z => hb fun _ => z⟩
/-- every family has one without crossings, as great, that uses every road as often -/
theorem uncross_all {n : Nat} {rs : List Road} : ∀ (d : Nat) (F : List Pl), left n F = d → (∀ p, p ∈ F → IsCut n rs p) → ∃ F' : List Pl, (∀ p, p ∈ F' → IsCut n rs p) ∧ F'.length = F.length ∧ (∀ e, useF rs F' e = useF rs F e) ∧ Calm n F' := fun d => by
  induction d using Nat.strongRecOn with
  | _ d ih =>
    intro F hd h
    by_cases c : Calm n F
    · exact ⟨F, h, rfl, fun _ => rfl, c⟩
    · obtain ⟨i, j, p, q, hij, hi, hj, hn⟩ := not_pairwise c
      have hp := h p (List.mem_of_getElem? hi)
      have hq := h q (List.mem_of_getElem? hj)
      have s := uncross_step (u := (upto n).filter fun x => decide (x ∈ p ∨ x ∈ q)) h (Nat.ne_of_lt hij) hi hj (by simpa using hn) (List.Pairwise.filter _ (asc_upto n)) fun x => by
        rw [List.mem_filter, decide_eq_true_eq, mem_upto]
        exact ⟨fun z => z.2, fun z => ⟨z.elim (hp.rng x) (hq.rng x), z⟩⟩
      obtain ⟨F', f1, f2, f3, f4⟩ := ih _ (by rw [← hd]; exact s.less) _ rfl s.cut
      exact ⟨F', f1, f2.trans s.len, fun e => (f3 e).trans (s.use e), f4⟩
end Ow
-- OwC
/-! Plain mathematics 3: a family without crossings falls into two halves, each with at most half (rounded up) of the cuts that a road is in. -/
namespace Ow
open Classical

/-! ### counting below k -/
noncomputable def tru (P : Prop) : Bool := @decide P (Classical.propDecidable P)
theorem tru_iff {P : Prop} : tru P = true ↔ P := @decide_eq_true_iff P (Classical.propDecidable P)
noncomputable def cnt (k : Nat) (P : Nat → Prop) : Nat := (List.range k).countP fun i => tru (P i)
theorem cnt_le {k : Nat} {P Q : Nat → Prop} (h : ∀ i, i < k → P i → Q i) : cnt k P ≤ cnt k Q := by
  refine List.countP_mono_left fun i hi hp => ?_
  exact tru_iff.mpr (h i (List.mem_range.mp hi) (tru_iff.mp hp))
theorem cnt_congr {k : Nat} {P Q : Nat → Prop} (h : ∀ i, i < k → (P i ↔ Q i)) : cnt k P = cnt k Q := Nat.le_antisymm (cnt_le fun i hi => (h i hi).mp) (cnt_le fun i hi => (h i hi).mpr)
theorem cnt_pos {k i : Nat} {P : Nat → Prop} (hi : i < k) (h : P i) : 0 < cnt k P := List.countP_pos_iff.mpr ⟨i, List.mem_range.mpr hi, tru_iff.mpr h⟩
theorem cnt_zero (P : Nat → Prop) : cnt 0 P = 0 := rfl
theorem cnt_yes {k : Nat} {P : Nat → Prop} (h : P k) : cnt (k + 1) P = cnt k P + 1 := by
  unfold cnt
  rw [List.range_succ, List.countP_append, List.countP_cons, if_pos (tru_iff.mpr h)]
  rfl
theorem cnt_no {k : Nat} {P : Nat → Prop} (h : ¬ P k) : cnt (k + 1) P = cnt k P := by
  unfold cnt
  rw [List.range_succ, List.countP_append, List.countP_cons, if_neg (fun q => h (tru_iff.mp q))]
  rfl
theorem cnt_split {P A B : Nat → Prop} : ∀ {k : Nat}, (∀ i, i < k → (P i ↔ A i ∨ B i)) → (∀ i, i < k → A i → ¬ B i) → cnt k P = cnt k A + cnt k B
  | 0, _, _ => rfl
  | k + 1, h, d => by
    have ih := cnt_split (k := k) (fun i hi => h i (by omega)) fun i hi => d i (by omega)
    have hk := h k (by omega)
    have dk := d k (by omega)
    by_cases a : A k
    · rw [cnt_yes a, cnt_no (dk a), cnt_yes (hk.mpr (.inl a))]
      omega
    · by_cases b : B k
      · rw [cnt_no a, cnt_yes b, cnt_yes (hk.mpr (.inr b))]
        omega
      · rw [cnt_no a, cnt_no b, cnt_no (fun q => (hk.mp q).elim a b)]
        omega
theorem cnt_lt {k : Nat} {P Q : Nat → Prop} (h : ∀ i, i < k → P i → Q i) {i : Nat} (hi : i < k) (h1 : Q i) (h2 : ¬ P i) : cnt k P < cnt k Q := by
  have e : cnt k Q = cnt k P + cnt k fun i => Q i ∧ ¬ P i := cnt_split (fun j hj => ⟨fun q => (em (P j)).elim .inl fun n => .inr ⟨q, n⟩, fun q => q.elim (h j hj) fun z => z.1⟩) fun j _ p q => q.2 p
  have : 0 < cnt k fun i => Q i ∧ ¬ P i := cnt_pos hi ⟨h1, h2⟩
  omega
/-- numbers with different values of one parity, all between 1 and m, are at most (m + 1) / 2 -/
theorem cnt_half {k m : Nat} {P : Nat → Prop} {r : Nat → Nat} (b : ∀ i, i < k → P i → 1 ≤ r i ∧ r i ≤ m) (inj : ∀ i j, i < k → j < k → P i → P j → r i = r j → i = j) (t : Nat) (par : ∀ i, i < k → P i → r i % 2 = t) : cnt k P ≤ (m + 1) / 2 := by
  have e : cnt k P = (((List.range k).filter fun i => tru (P i)).map fun i => (r i - 1) / 2).length := by
    unfold cnt
    rw [List.length_map, List.countP_eq_length_filter]
  rw [e]
  have hmem : ∀ i, i ∈ (List.range k).filter (fun i => tru (P i)) → i < k ∧ P i := fun i hi => ⟨List.mem_range.mp (List.mem_filter.mp hi).1, tru_iff.mp (List.mem_filter.mp hi).2⟩
  have := nodup_len (l := ((List.range k).filter fun i => tru (P i)).map fun i => (r i - 1) / 2) (D := List.range ((m + 1) / 2)) ?_ ?_
  · rw [List.length_range] at this
    exact this
  · rw [List.Nodup, List.pairwise_map]
    refine List.Pairwise.imp_of_mem (fun {a b'} ha hb hne he => ?_) (List.Pairwise.filter _ (List.nodup_range (n := k)))
    obtain ⟨a1, a2⟩ := hmem a ha
    obtain ⟨b1, b2⟩ := hmem b' hb
    have := b a a1 a2
    have := b b' b1 b2
    have := par a a1 a2
    have := par b' b1 b2
    exact hne (inj a b' a1 b1 a2 b2 (by omega))
  · intro x hx
    obtain ⟨i, hi, rfl⟩ := List.mem_map.mp hx
    obtain ⟨i1, i2⟩ := hmem i hi
    have := b i i1 i2
    exact List.mem_range.mpr (by omega)

/-! ### levels -/
section
variable {k : Nat} {V : Int → Prop} (s : Nat → Int → Prop)
/-- the j-th set lies above the i-th (or is it, j not behind i), or both together have all places -/
def Abv (V : Int → Prop) (s : Nat → Int → Prop) (i j : Nat) : Prop := ((∀ x, V x → s i x → s j x) ∧ ((∃ x, V x ∧ s j x ∧ ¬ s i x) ∨ j ≤ i)) ∨ ∀ x, V x → s i x ∨ s j x
noncomputable def lev (k : Nat) (V : Int → Prop) (s : Nat → Int → Prop) (i : Nat) : Nat := cnt k (Abv V s i)
variable {s}
/-- no two of them cross -/
def NoX (k : Nat) (V : Int → Prop) (s : Nat → Int → Prop) : Prop := ∀ i j, i < k → j < k → i ≠ j → (∀ x, V x → s i x → ¬ s j x) ∨ (∀ x, V x → s i x ∨ s j x) ∨ (∀ x, V x → s i x → s j x) ∨ (∀ x, V x → s j x → s i x)
theorem lev_road (nx : NoX k V s) {u v : Int} (hu : V u) (hv : V v) (cl : ∀ j, j < k → s j u → s j v) {i : Nat} (hi : i < k) (iv : s i v) (iu : ¬ s i u) :
    lev k V s i = cnt k (fun j => s j u) + cnt k (fun j => (s j v ∧ ¬ s j u) ∧ Abv V s i j) := by
  refine cnt_split (fun j hj => ⟨fun h => ?_, fun h => ?_⟩) fun j _ h1 h2 => h2.1.2 h1
  · by_cases ju : s j u
    · exact .inl ju
    · refine .inr ⟨⟨?_, ju⟩, h⟩
      rcases h with h | h
      · exact h.1 v hv iv
      · exact absurd (h u hu) (fun z => z.elim iu ju)
  · rcases h with ju | h
    · by_cases e : i = j
      · subst e
        exact absurd ju iu
      · rcases nx i j hi hj e with z | z | z | z
        · exact absurd (cl j hj ju) (z v hv iv)
        · exact .inr z
        · exact .inl ⟨z, .inl ⟨u, hu, ju, iu⟩⟩
        · exact absurd (z u hu ju) iu
    · exact h.2
theorem lev_half (nx : NoX k V s) {u v : Int} (hu : V u) (hv : V v) (cl : ∀ j, j < k → s j u → s j v) (t : Nat) :
    cnt k (fun i => (s i v ∧ ¬ s i u) ∧ lev k V s i % 2 = t) ≤ (cnt k (fun i => s i v ∧ ¬ s i u) + 1) / 2 := by
  have key : ∀ i, i < k → s i v → ¬ s i u → lev k V s i = cnt k (fun j => s j u) + cnt k (fun j => (s j v ∧ ¬ s j u) ∧ Abv V s i j) := fun i hi iv iu => lev_road nx hu hv cl hi iv iu
  have self : ∀ i, Abv V s i i := fun i => .inl ⟨fun _ _ h => h, .inr (Nat.le_refl _)⟩
  -- of two different ones on the road one is strictly above the other
  have strict : ∀ i j, i < k → j < k → (s i v ∧ ¬ s i u) → (s j v ∧ ¬ s j u) → ((∀ x, V x → s i x → s j x) ∧ ((∃ x, V x ∧ s j x ∧ ¬ s i x) ∨ j < i)) →
      cnt k (fun l => (s l v ∧ ¬ s l u) ∧ Abv V s j l) < cnt k (fun l => (s l v ∧ ¬ s l u) ∧ Abv V s i l) := fun i j hi hj ii jj h => by
    have hsub := h.1
    refine cnt_lt (fun l hl hp => ⟨hp.1, ?_⟩) hi ⟨ii, self i⟩ fun hp => ?_
    · rcases hp.2 with q | q
      · refine .inl ⟨fun x hx hs => q.1 x hx (h.1 x hx hs), ?_⟩
        rcases h.2 with ⟨x, hx, h1, h2⟩ | h
        · exact .inl ⟨x, hx, q.1 x hx h1, h2⟩
        · rcases q.2 with ⟨x, hx, h1, h2⟩ | q2
          · by_cases ix : s i x
            · exact absurd (hsub x hx ix) h2
            · exact .inl ⟨x, hx, h1, ix⟩
          · exact .inr (by omega)
      · exact absurd (q u hu) fun z => z.elim jj.2 hp.1.2
    · rcases hp.2 with q | q
      · rcases h.2 with ⟨x, hx, h1, h2⟩ | h
        · exact h2 (q.1 x hx h1)
        · rcases q.2 with ⟨x, hx, h1, h2⟩ | q2
          · exact h2 (hsub x hx h1)
          · omega
      · exact (q u hu).elim jj.2 ii.2
  refine cnt_half (r := fun i => cnt k (fun j => (s j v ∧ ¬ s j u) ∧ Abv V s i j)) (fun i hi hp => ⟨?_, cnt_le fun j _ hj => hj.1⟩) (fun i j hi hj pi pj e => ?_) ((t + cnt k (fun j => s j u)) % 2) fun i hi hp => ?_
  · exact cnt_pos hi ⟨hp.1, self i⟩
  · refine Classical.byContradiction fun ne => ?_
    have fin : ∀ i j, i < k → j < k → (s i v ∧ ¬ s i u) → (s j v ∧ ¬ s j u) → cnt k (fun l => (s l v ∧ ¬ s l u) ∧ Abv V s i l) = cnt k (fun l => (s l v ∧ ¬ s l u) ∧ Abv V s j l) → i ≠ j → (∀ x, V x → s i x → s j x) → False := by
      intro i j hi hj ii jj e ne sub
      by_cases back : ∀ x, V x → s j x → s i x
      · rcases Nat.lt_or_gt_of_ne ne with lt | gt
        · have := strict j i hj hi jj ii ⟨back, .inr lt⟩
          omega
        · have := strict i j hi hj ii jj ⟨sub, .inr gt⟩
          omega
      · obtain ⟨x, hx⟩ := Classical.not_forall.mp back
        have h1 : V x := byContradiction fun z => hx fun y => absurd y z
        have h2 : s j x := byContradiction fun z => hx fun _ y => absurd y z
        have h3 : ¬ s i x := fun z => hx fun _ _ => z
        have := strict i j hi hj ii jj ⟨sub, .inl ⟨x, h1, h2, h3⟩⟩
        omega
    rcases nx i j hi hj ne with z | z | z | z
    · exact z v hv pi.1.1 pj.1.1
    · exact (z u hu).elim pi.1.2 pj.1.2
    · exact fin i j hi hj pi.1 pj.1 e ne z
    · exact fin j i hj hi pj.1 pi.1 e.symm (Ne.symm ne) z
  · have h1 := key i hi hp.1.1 hp.1.2
    have h2 := hp.2
    omega
end

/-! ### families -/
theorem getD_in {α : Type} (d : α) {F : List α} {i : Nat} (h : i < F.length) : F.getD i d = F[i] := by
  rw [List.getD_eq_getElem?_getD, List.getElem?_eq_getElem h]
  rfl
theorem range_getD {α : Type} (d : α) : ∀ F : List α, (List.range F.length).map (fun i => F.getD i d) = F := fun F => by
  apply List.ext_getElem
  · rw [List.length_map, List.length_range]
  · intro i h1 h2
    rw [List.getElem_map, List.getElem_range, getD_in _ h2]
theorem countP_cnt {α : Type} (d : α) (p : α → Bool) (F : List α) : F.countP p = cnt F.length fun i => p (F.getD i d) = true := by
  conv => lhs; rw [← range_getD d F]
  unfold cnt
  rw [List.countP_map]
  refine List.countP_congr fun i _ => ?_
  exact (tru_iff (P := p (F.getD i d) = true)).symm
section
variable {n : Nat} {rs : List Road} {F : List Pl}
abbrev inR (n : Nat) (x : Int) : Prop := 0 ≤ x ∧ x < (n : Int)
def sOf (F : List Pl) (i : Nat) (x : Int) : Prop := x ∈ F.getD i []
theorem getD_mem {i : Nat} (hi : i < F.length) : F.getD i [] ∈ F := by
  rw [getD_in _ hi]
  exact List.getElem_mem hi
theorem noX_of (h : ∀ p, p ∈ F → IsCut n rs p) (c : Calm n F) : NoX F.length (inR n) (sOf F) := by
  have go : ∀ i j, i < F.length → j < F.length → i < j → crossB n (F.getD i []) (F.getD j []) = false := fun i j hi hj hij => by
    rw [getD_in _ hi, getD_in _ hj]
    exact List.pairwise_iff_getElem.mp c i j hi hj hij
  intro i j hi hj ne
  have ci := h _ (getD_mem hi)
  have cj := h _ (getD_mem hj)
  have cr : crossB n (F.getD i []) (F.getD j []) = false := by
    rcases Nat.lt_or_gt_of_ne ne with l | g
    · exact go i j hi hj l
    · rw [cross_comm ci.asc cj.asc]
      exact go j i hj hi g
  rcases no_cross ci cj cr with z | z | z | z
  · exact .inl fun x _ hx => z x hx
  · exact .inr (.inl fun x hx => z x hx.1 hx.2)
  · exact .inr (.inr (.inl fun x _ hx => z x hx))
  · exact .inr (.inr (.inr fun x _ hx => z x hx))
/-- the colour of the i-th cut -/
noncomputable def col (n : Nat) (F : List Pl) (i : Nat) : Bool := decide (lev F.length (inR n) (sOf F) i % 2 = 0)
abbrev RoadsOk (n : Nat) (rs : List Road) : Prop := ∀ r, r ∈ rs → inR n r.1 ∧ inR n r.2
theorem col_half (ro : RoadsOk n rs) (h : ∀ p, p ∈ F → IsCut n rs p) (c : Calm n F) (e : Nat) (t : Bool) :
    cnt F.length (fun i => hit rs (F.getD i []) e = true ∧ col n F i = t) ≤ (useF rs F e + 1) / 2 := by
  cases he : rs[e]? with
  | none =>
    have z : cnt F.length (fun i => hit rs (F.getD i []) e = true ∧ col n F i = t) = 0 := by
      refine Nat.eq_zero_of_le_zero (Nat.le_trans (cnt_le (Q := fun _ => False) fun i _ hp => ?_) ?_)
      · have := hp.1
        unfold hit at this
        rw [he] at this
        cases this
      · unfold cnt
        rw [List.countP_eq_zero.mpr fun i _ z => tru_iff.mp z]
        exact Nat.le_refl _
    rw [z]
    exact Nat.zero_le _
  | some r =>
    have hr : r ∈ rs := List.mem_of_getElem? he
    obtain ⟨h1, h2⟩ := ro r hr
    have cl : ∀ j, j < F.length → sOf F j r.1 → sOf F j r.2 := fun j hj => (h _ (getD_mem hj)).cl r hr
    have hu : useF rs F e = cnt F.length fun i => sOf F i r.2 ∧ ¬ sOf F i r.1 := by
      rw [useF, countP_cnt []]
      refine cnt_congr fun i _ => ?_
      rw [hit_at he, hitR_iff]
      exact And.comm
    rw [hu]
    cases t with
    | true =>
      refine Nat.le_trans (cnt_le fun i _ hp => ?_) (lev_half (noX_of h c) h1 h2 cl 0)
      rw [hit_at he, hitR_iff] at hp
      exact ⟨⟨hp.1.2, hp.1.1⟩, of_decide_eq_true hp.2⟩
    | false =>
      refine Nat.le_trans (cnt_le fun i _ hp => ?_) (lev_half (noX_of h c) h1 h2 cl 1)
      rw [hit_at he, hitR_iff] at hp
      refine ⟨⟨hp.1.2, hp.1.1⟩, ?_⟩
      have := of_decide_eq_false hp.2
      omega
/-- where each road is in at most two cuts, those with a common road have different colours -/
theorem col_apart (ro : RoadsOk n rs) (h : ∀ p, p ∈ F → IsCut n rs p) (c : Calm n F) (u2 : ∀ e, e < rs.length → useF rs F e ≤ 2) {i j e : Nat} (hi : i < F.length) (hj : j < F.length) (ne : i ≠ j) (h1 : hit rs (F.getD i []) e = true) (h2 : hit rs (F.getD j []) e = true) : col n F i ≠ col n F j := fun z => by
  have a := col_half ro h c e (col n F i)
  have b := u2 e (hit_lt h1)
  have lt := cnt_lt (k := F.length) (P := fun l => l = i) (Q := fun l => hit rs (F.getD l []) e = true ∧ col n F l = col n F i) (fun l _ hl => by subst hl; exact ⟨h1, rfl⟩) hj ⟨h2, z.symm⟩ (Ne.symm ne)
  have pos : 0 < cnt F.length (fun l => l = i) := cnt_pos hi rfl
  omega
noncomputable def part (n : Nat) (F : List Pl) (t : Bool) : List Pl := ((List.range F.length).filter fun i => col n F i == t).map fun i => F.getD i []
theorem part_len (n : Nat) (F : List Pl) : (part n F true).length + (part n F false).length = F.length := by
  unfold part
  rw [List.length_map, List.length_map, ← List.countP_eq_length_filter, ← List.countP_eq_length_filter]
  have : ∀ l : List Nat, l.countP (fun i => col n F i == true) + l.countP (fun i => col n F i == false) = l.length := fun l => by
    induction l with
    | nil => rfl
    | cons a l ih =>
      rw [List.countP_cons, List.countP_cons, List.length_cons]
      cases col n F a
      · rw [if_neg (by decide), if_pos (by decide)]
        omega
      · rw [if_pos (by decide), if_neg (by decide)]
        omega
  rw [this, List.length_range]
theorem part_use (e : Nat) (t : Bool) : useF rs (part n F t) e = cnt F.length fun i => hit rs (F.getD i []) e = true ∧ col n F i = t := by
  unfold part useF cnt
  rw [List.countP_map, List.countP_filter]
  refine List.countP_congr fun i _ => ?_
  rw [tru_iff, Bool.and_eq_true, beq_iff_eq]
  exact Iff.rfl
theorem part_mem {p : Pl} {t : Bool} (h : p ∈ part n F t) : p ∈ F := by
  obtain ⟨i, hi, rfl⟩ := List.mem_map.mp h
  exact getD_mem (List.mem_range.mp (List.mem_filter.mp hi).1)
end

/-! ### nets that hang together: every cut has a road -/
def Conn (n : Nat) (rs : List Road) : Prop := ∀ S : Int → Prop, (∃ x, inR n x ∧ S x) → (∀ r, r ∈ rs → (S r.1 ↔ S r.2)) → ∀ x, inR n x → S x
theorem cut_hit {n : Nat} {rs : List Road} (c : Conn n rs) {p : Pl} (h : IsCut n rs p) : ∃ e, e < rs.length ∧ hit rs p e = true := by
  refine Classical.byContradiction fun no => ?_
  have none : ∀ r, r ∈ rs → ¬ (r.1 ∉ p ∧ r.2 ∈ p) := fun r hr q => by
    obtain ⟨e, he⟩ := List.mem_iff_getElem?.mp hr
    have hh : hit rs p e = true := by
      rw [hit_at he]
      exact hitR_iff.mpr q
    exact no ⟨e, hit_lt hh, hh⟩
  have all := c (fun x => x ∈ p) (by
    obtain ⟨x, hx⟩ := List.exists_mem_of_length_pos h.ne
    exact ⟨x, h.rng x hx, hx⟩) fun r hr => ⟨h.cl r hr, fun q => Classical.byContradiction fun z => none r hr ⟨z, q⟩⟩
  have := nodup_len (asc_upto n).nodup fun x hx => all x (mem_upto.mp hx)
  rw [len_upto] at this
  have := h.lt
  omega
/-- the hypergraph of the cuts' roads -/
def hyg (n : Nat) (rs : List Road) (c : Conn n rs) : Hyg Pl := ⟨rs.length, IsCut n rs, hit rs, fun _ h => cut_hit c h⟩
theorem halves_all {n : Nat} {rs : List Road} (c : Conn n rs) (ro : RoadsOk n rs) : Half (hyg n rs c) := by
  intro w F h
  obtain ⟨F', f1, f2, f3, f4⟩ := uncross_all (n := n) (rs := rs) _ F rfl h.1
  have go : ∀ t, Pk (hyg n rs c) w (part n F' t) := fun t => ⟨fun p hp => f1 p (part_mem hp), fun e he => by
    show useF rs (part n F' t) e ≤ w e
    rw [part_use]
    have a := col_half ro f1 f4 e t
    rw [f3 e] at a
    have b : useF rs F e ≤ 2 * w e := h.2 e he
    omega⟩
  exact ⟨_, _, go true, go false, by rw [part_len, f2]; exact Nat.le_refl _⟩
/-- Lucchesi and Younger, for a net's weights -/
theorem net_minmax {n : Nat} {rs : List Road} (c : Conn n rs) (ro : RoadsOk n rs) (w : Nat → Nat) : ∃ F T, Pk (hyg n rs c) w F ∧ Tr (hyg n rs c) T ∧ wt (hyg n rs c) w T ≤ F.length := minmax (halves_all c ro) _ w rfl
end Ow
-- OwD
/-! Plain mathematics 4: a walk that colours a graph by two colours. -/
namespace Ow
/-- two rows have a number in common -/
def adj (R : List (List Int)) (i j : Nat) : Prop := ∃ x, x ∈ R.getD i [] ∧ x ∈ R.getD j []
theorem adj_comm {R : List (List Int)} {i j : Nat} (h : adj R i j) : adj R j i := by
  obtain ⟨x, a, b⟩ := h
  exact ⟨x, b, a⟩
abbrev Proper (R : List (List Int)) (χ : Nat → Bool) : Prop := ∀ i j, i < R.length → j < R.length → i ≠ j → adj R i j → χ i ≠ χ j
def b2i (b : Bool) : Int := if b then 1 else 0
def sAt (S : List Int) (i : Nat) : Int := S.getD i (-1)
theorem sAt_get {S : List Int} {i : Nat} (h : i < S.length) : S[i]? = some (sAt S i) := by
  unfold sAt
  rw [List.getD_eq_getElem?_getD, List.getElem?_eq_getElem h]
  rfl
theorem sAt_set {S : List Int} {i : Nat} (h : i < S.length) (v : Int) (j : Nat) : sAt (S.set i v) j = if j = i then v else sAt S j := by
  unfold sAt
  rw [List.getD_eq_getElem?_getD, List.getD_eq_getElem?_getD, List.getElem?_set]
  by_cases e : i = j
  · subst e
    rw [if_pos rfl, if_pos h, if_pos rfl]
    rfl
  · rw [if_neg e, if_neg fun z => e z.symm]
/-- how many are not coloured -/
def unc (S : List Int) : Nat := S.count (-1)
theorem unc_set {S : List Int} {i : Nat} (h : i < S.length) (h1 : sAt S i = -1) {v : Int} (hv : v ≠ -1) : unc (S.set i v) + 1 = unc S := by
  unfold unc
  induction S generalizing i with
  | nil => exact absurd h (Nat.not_lt_zero _)
  | cons a S ih =>
    cases i with
    | zero =>
      have h1 : a = -1 := h1
      subst h1
      rw [List.set_cons_zero, List.count_cons, List.count_cons]
      have e : (v == -1) = false := beq_eq_false_iff_ne.mpr hv
      rw [e]
      simp
    | succ i =>
      rw [List.set_cons_succ, List.count_cons, List.count_cons]
      have := ih (i := i) (Nat.lt_of_succ_lt_succ h) h1
      omega

variable (R : List (List Int)) (χ : Nat → Bool)
/-- what holds while a component is walked: D, the vertices of the components before; s, the flip of this one; A, the vertices ahead; at, up to to: the vertex walked now -/
structure Clr (S : List Int) (D : Nat → Prop) (s : Bool) (A : List Nat) (E : Nat → Nat → Prop) : Prop where
  len : S.length = R.length
  val : ∀ i, sAt S i = -1 ∨ sAt S i = 0 ∨ sAt S i = 1
  dif : ∀ i j, i < R.length → j < R.length → i ≠ j → adj R i j → sAt S i ≠ -1 → sAt S j ≠ -1 → sAt S i ≠ sAt S j
  done : ∀ i, i < R.length → D i → sAt S i ≠ -1 ∧ ∀ j, j < R.length → adj R i j → sAt S j ≠ -1
  cur : ∀ i, i < R.length → sAt S i ≠ -1 → D i ∨ sAt S i = b2i (χ i != s)
  exp : ∀ i, i < R.length → sAt S i ≠ -1 → D i ∨ i ∈ A ∨ ∀ j, j < R.length → adj R i j → ¬ E i j → sAt S j ≠ -1
  stk : ∀ i, i ∈ A → i < R.length ∧ sAt S i ≠ -1 ∧ ¬ D i
variable {R χ} {S : List Int} {D : Nat → Prop} {s : Bool} {A : List Nat} {E : Nat → Nat → Prop}
theorem b2i_not (b : Bool) : 1 - b2i b = b2i (!b) := by cases b <;> rfl
theorem b2i_ne (b : Bool) : b2i b ≠ -1 := by cases b <;> decide
theorem b2i_inj {a b : Bool} (h : a ≠ b) : b2i a ≠ b2i b := by
  cases a <;> cases b <;> first | exact absurd rfl h | decide
theorem b2i_val (b : Bool) : b2i b = 0 ∨ b2i b = 1 := by cases b <;> decide
/-- a vertex is coloured from one that is of this component -/
theorem Clr.put (c : Clr R χ S D s A E) (pr : Proper R χ) {t : Nat} (ht : t < R.length) (hu : sAt S t = -1) {v : Int} (hv : v = b2i (χ t != s)) : Clr R χ (S.set t v) D s (A ++ [t]) E := by
  have hl : t < S.length := by rw [c.len]; exact ht
  have hvn : v ≠ -1 := by rw [hv]; exact b2i_ne _
  have keep : ∀ i, sAt S i ≠ -1 → sAt (S.set t v) i = sAt S i := fun i h => by
    rw [sAt_set hl, if_neg]
    intro e
    rw [e] at h
    exact h hu
  have keep2 : ∀ i, sAt S i ≠ -1 → sAt (S.set t v) i ≠ -1 := fun i h => by rw [keep i h]; exact h
  have new : sAt (S.set t v) t = v := by rw [sAt_set hl, if_pos rfl]
  have old : ∀ i, i ≠ t → sAt (S.set t v) i = sAt S i := fun i h => by rw [sAt_set hl, if_neg h]
  have hD : ∀ j, j < R.length → D j → adj R t j → False := fun j hj hd ha => (c.done j hj hd).2 t ht (adj_comm ha) hu
  have side : ∀ j, j < R.length → j ≠ t → adj R t j → sAt S j ≠ -1 → sAt S j ≠ v := fun j hj hne ha hc => by
    rcases c.cur j hj hc with hd | hcu
    · exact absurd (hD j hj hd ha) id
    · rw [hcu, hv]
      refine b2i_inj fun e => pr t j ht hj (Ne.symm hne) ha ?_
      cases h1 : χ t <;> cases h2 : χ j <;> cases s <;> first | rfl | (rw [h1, h2] at e; exact absurd e (by decide))
  refine ⟨by rw [List.length_set]; exact c.len, fun i => ?_, fun i j hi hj hne ha h1 h2 => ?_, fun i hi hd => ?_, fun i hi h => ?_, fun i hi h => ?_, fun i hi => ?_⟩
  · by_cases e : i = t
    · rw [e, new, hv]
      exact .inr (b2i_val _)
    · rw [old i e]
      exact c.val i
  · by_cases e1 : i = t
    · subst e1
      have hjt : j ≠ i := Ne.symm hne
      rw [old j hjt] at h2
      rw [new, old j hjt]
      exact Ne.symm (side j hj hjt ha h2)
    · by_cases e2 : j = t
      · subst e2
        rw [old i e1] at h1
        rw [new, old i e1]
        exact side i hi e1 (adj_comm ha) h1
      · rw [old i e1] at h1
        rw [old j e2] at h2
        rw [old i e1, old j e2]
        exact c.dif i j hi hj hne ha h1 h2
  · obtain ⟨h1, h2⟩ := c.done i hi hd
    exact ⟨keep2 i h1, fun j hj ha => keep2 j (h2 j hj ha)⟩
  · by_cases e : i = t
    · rw [e, new]
      exact .inr hv
    · rw [old i e] at h ⊢
      exact c.cur i hi h
  · by_cases e : i = t
    · rw [e]
      exact .inr (.inl (List.mem_append_right _ (List.mem_singleton.mpr rfl)))
    · rw [old i e] at h
      rcases c.exp i hi h with z | z | z
      · exact .inl z
      · exact .inr (.inl (List.mem_append_left _ z))
      · exact .inr (.inr fun j hj ha hE => keep2 j (z j hj ha hE))
  · rcases List.mem_append.mp hi with z | z
    · obtain ⟨a, b, d⟩ := c.stk i z
      exact ⟨a, keep2 i b, d⟩
    · rw [List.mem_singleton.mp z]
      refine ⟨ht, by rw [new]; exact hvn, fun hd => (c.done t ht hd).1 hu⟩
/-- nothing pending -/
def noE : Nat → Nat → Prop := fun _ _ => False
/-- the vertex at, its neighbours from to on, are pending -/
def penE (at_ to : Nat) : Nat → Nat → Prop := fun i j => i = at_ ∧ to ≤ j
theorem Clr.pop (c : Clr R χ S D s (A ++ [t]) noE) : Clr R χ S D s A (penE t 0) :=
  ⟨c.len, c.val, c.dif, c.done, c.cur, fun i hi h => by
    rcases c.exp i hi h with z | z | z
    · exact .inl z
    · rcases List.mem_append.mp z with z | z
      · exact .inr (.inl z)
      · exact .inr (.inr fun j _ _ hE => absurd ⟨List.mem_singleton.mp z, Nat.zero_le j⟩ hE)
    · exact .inr (.inr fun j hj ha _ => z j hj ha (fun x => x)), fun i hi => c.stk i (List.mem_append_left _ hi)⟩
/-- the turn of a neighbour that is coloured now, or none -/
theorem Clr.next {t k : Nat} (c : Clr R χ S D s A (penE t k)) (h : k < R.length → adj R t k → sAt S k ≠ -1) : Clr R χ S D s A (penE t (k + 1)) :=
  ⟨c.len, c.val, c.dif, c.done, c.cur, fun i hi hc => by
    rcases c.exp i hi hc with z | z | z
    · exact .inl z
    · exact .inr (.inl z)
    · refine .inr (.inr fun j hj ha hE => ?_)
      by_cases e : i = t ∧ k ≤ j
      · obtain ⟨rfl, hk⟩ := e
        have hjk : j = k := by
          have : ¬ (k + 1 ≤ j) := fun x => hE ⟨rfl, x⟩
          omega
        subst hjk
        exact h hj ha
      · exact z j hj ha e, c.stk⟩
theorem Clr.endT {t : Nat} (c : Clr R χ S D s A (penE t R.length)) : Clr R χ S D s A noE :=
  ⟨c.len, c.val, c.dif, c.done, c.cur, fun i hi hc => by
    rcases c.exp i hi hc with z | z | z
    · exact .inl z
    · exact .inr (.inl z)
    · exact .inr (.inr fun j hj ha _ => z j hj ha fun ⟨_, h⟩ => absurd hj (Nat.not_lt.mpr h)), c.stk⟩
/-- a component is done -/
theorem Clr.fin (c : Clr R χ S D s [] noE) (s' : Bool) : Clr R χ S (fun i => sAt S i ≠ -1) s' [] noE :=
  ⟨c.len, c.val, c.dif, fun i hi h => ⟨h, fun j hj ha => by
    rcases c.exp i hi h with z | z | z
    · exact (c.done i hi z).2 j hj ha
    · exact absurd z (by simp)
    · exact z j hj ha (fun x => x)⟩, fun i _ h => .inl h, fun i _ h => .inl h, fun i hi => absurd hi (by simp)⟩
/-- a component starts -/
theorem Clr.start (c : Clr R χ S (fun i => sAt S i ≠ -1) s [] noE) (pr : Proper R χ) {t : Nat} (ht : t < R.length) (hu : sAt S t = -1) : Clr R χ (S.set t 0) (fun i => sAt S i ≠ -1) (χ t) [t] noE := by
  have c2 : Clr R χ S (fun i => sAt S i ≠ -1) (χ t) [] noE := ⟨c.len, c.val, c.dif, c.done, fun i hi h => .inl h, c.exp, c.stk⟩
  have h := c2.put pr ht hu (v := 0) (by cases χ t <;> rfl)
  exact h
theorem clr_new (R : List (List Int)) (χ : Nat → Bool) (s : Bool) : Clr R χ (R.map fun _ => (-1 : Int)) (fun i => sAt (R.map fun _ => (-1 : Int)) i ≠ -1) s [] noE := by
  have hall : ∀ i, sAt (R.map fun _ => (-1 : Int)) i = -1 := fun i => by
    unfold sAt
    rw [List.getD_eq_getElem?_getD, List.getElem?_map]
    cases R[i]? <;> rfl
  exact ⟨List.length_map _, fun i => .inl (hall i), fun i j _ _ _ _ h => absurd (hall i) h, fun i _ h => absurd (hall i) h, fun i _ h => .inl h, fun i _ h => .inl h, fun i hi => absurd hi (by simp)⟩
/-- what the walk gives -/
structure Sides (R : List (List Int)) (S : List Int) : Prop where
  len : S.length = R.length
  val : ∀ i, i < R.length → sAt S i = 0 ∨ sAt S i = 1
  dif : ∀ i j, i < R.length → j < R.length → i ≠ j → adj R i j → sAt S i ≠ sAt S j
  first : 0 < R.length → sAt S 0 = 0
end Ow
-- OwQ
/-! Plain mathematics 5: packing cuts one by one, as long as the least price of a join falls by one each time, gives a greatest family. -/
namespace Ow
variable {n : Nat} {rs : List Road} {c : Conn n rs}

def IsNu (c : Conn n rs) (w : Nat → Nat) (k : Nat) : Prop := PkN (hyg n rs c) w k ∧ ¬ PkN (hyg n rs c) w (k + 1)
theorem nu_ex (c : Conn n rs) (w : Nat → Nat) : ∃ k, IsNu c w k := greatest (P := PkN (hyg n rs c) w) (PkN.zero w) fun k h => h.bound
theorem nu_le {w : Nat → Nat} {j k : Nat} (h : PkN (hyg n rs c) w j) (hk : IsNu c w k) : j ≤ k := by
  refine Nat.le_of_not_lt fun z => hk.2 (h.less ?_)
  omega
/-! ### minimal joins -/
def pri (w : Nat → Nat) (J : List Int) : Nat := (J.map fun x => w x.toNat).sum
structure MinJ (n : Nat) (rs : List Road) (J : List Int) : Prop where
  asc : Asc J
  rng : ∀ x, x ∈ J → 0 ≤ x ∧ x < (rs.length : Int)
  meets : ∀ p, IsCut n rs p → ∃ e : Nat, (e : Int) ∈ J ∧ hit rs p e = true
  needed : ∀ x, x ∈ J → ∃ p, IsCut n rs p ∧ ∀ y, y ∈ J → (hit rs p y.toNat = true ↔ y = x)
theorem min_sub {T : Nat → Bool} : ∀ (k : Nat) (J : List Int), J.length = k → Asc J → (∀ x, x ∈ J → 0 ≤ x ∧ x < (rs.length : Int)) → (∀ p, IsCut n rs p → ∃ e : Nat, (e : Int) ∈ J ∧ hit rs p e = true) → (∀ x, x ∈ J → T x.toNat = true) →
    ∃ J', MinJ n rs J' ∧ ∀ x, x ∈ J' → T x.toNat = true := fun k => by
  induction k with
  | zero =>
    intro J hk ha hr hm hT
    have : J = [] := List.eq_nil_of_length_eq_zero hk
    subst this
    exact ⟨[], ⟨ha, hr, hm, fun x hx => nomatch hx⟩, hT⟩
  | succ k ih =>
    intro J hk ha hr hm hT
    by_cases hn : ∀ x, x ∈ J → ∃ p, IsCut n rs p ∧ ∀ y, y ∈ J → (hit rs p y.toNat = true ↔ y = x)
    · exact ⟨J, ⟨ha, hr, hm, hn⟩, hT⟩
    · obtain ⟨x, hx⟩ := Classical.not_forall.mp hn
      obtain ⟨hxJ, hno⟩ := Classical.not_imp.mp hx
      have sub : ∀ y, y ∈ J.erase x → y ∈ J := fun y hy => List.mem_of_mem_erase hy
      refine ih (J.erase x) (by rw [List.length_erase_of_mem hxJ, hk]; rfl) (List.Pairwise.sublist List.erase_sublist ha) (fun y hy => hr y (sub y hy)) (fun p hp => ?_) fun y hy => hT y (sub y hy)
      obtain ⟨e, he, hh⟩ := hm p hp
      by_cases hex : (e : Int) = x
      · refine Classical.byContradiction fun hz => hno ⟨p, hp, fun y hy => ⟨fun h => ?_, fun h => ?_⟩⟩
        · refine Classical.byContradiction fun hyx => hz ⟨y.toNat, ?_, h⟩
          have := (hr y hy).1
          rw [Int.toNat_of_nonneg this]
          exact (List.mem_erase_of_ne hyx).mpr hy
        · rw [h, ← hex, Int.toNat_natCast]
          exact hh
      · exact ⟨e, (List.mem_erase_of_ne hex).mpr he, hh⟩
theorem sum_filter_le {α : Type} {p : α → Bool} {f g : α → Nat} : ∀ {l : List α}, (∀ x, x ∈ l → p x = true → f x ≤ g x) → ((l.filter p).map f).sum ≤ (l.map g).sum
  | [], _ => Nat.le_refl _
  | a :: l, h => by
    have ih := sum_filter_le (l := l) fun x hx => h x (List.mem_cons_of_mem _ hx)
    rw [List.map_cons, List.sum_cons, List.filter_cons]
    cases hp : p a with
    | true =>
      have := h a (List.mem_cons_self ..) hp
      simp only [if_true, List.map_cons, List.sum_cons]
      omega
    | false =>
      simp only [Bool.false_eq_true, if_false]
      omega
theorem sumN_range (f : Nat → Nat) : ∀ m, sumN f m = ((List.range m).map f).sum
  | 0 => rfl
  | m + 1 => by
    rw [List.range_succ, List.map_append, List.sum_append, ← sumN_range f m]
    show sumN f m + f m = _
    simp
theorem pri_wt {w : Nat → Nat} {T : Nat → Bool} {J : List Int} (ha : Asc J) (hr : ∀ x, x ∈ J → 0 ≤ x ∧ x < (rs.length : Int)) (hT : ∀ x, x ∈ J → T x.toNat = true) : pri w J ≤ wt (hyg n rs c) w T := by
  have e : J = (upto rs.length).filter fun x => decide (x ∈ J) := asc_eq ha (List.Pairwise.filter _ (asc_upto _)) fun x => by
    rw [List.mem_filter, decide_eq_true_eq, mem_upto]
    exact ⟨fun h => ⟨hr x h, h⟩, fun h => h.2⟩
  unfold wt
  show pri w J ≤ sumN _ rs.length
  rw [sumN_range]
  unfold pri
  rw [e]
  unfold upto
  rw [List.filter_map, List.map_map]
  refine sum_filter_le fun x hx hp => ?_
  have hp := of_decide_eq_true hp
  show w (Int.ofNat x).toNat ≤ _
  have e2 : (Int.ofNat x).toNat = x := rfl
  have h3 := hT _ hp
  rw [e2] at h3 ⊢
  rw [if_pos h3]
  exact Nat.le_refl _
theorem pri_add (f g : Nat → Nat) : ∀ J : List Int, pri (fun e => f e + g e) J = pri f J + pri g J
  | [] => rfl
  | x :: J => by
    have ih := pri_add f g J
    unfold pri at ih ⊢
    rw [List.map_cons, List.map_cons, List.map_cons, List.sum_cons, List.sum_cons, List.sum_cons, ih]
    show f x.toNat + g x.toNat + _ = _
    omega
theorem pri_mono {f g : Nat → Nat} : ∀ {J : List Int}, (∀ x, x ∈ J → f x.toNat ≤ g x.toNat) → pri f J ≤ pri g J
  | [], _ => Nat.le_refl _
  | x :: J, h => by
    have ih := pri_mono (J := J) fun y hy => h y (List.mem_cons_of_mem _ hy)
    have := h x (List.mem_cons_self ..)
    unfold pri at ih ⊢
    rw [List.map_cons, List.map_cons, List.sum_cons, List.sum_cons]
    omega
theorem pri_pos {f : Nat → Nat} {x : Int} : ∀ {J : List Int}, x ∈ J → 1 ≤ f x.toNat → 1 ≤ pri f J
  | y :: J, hx, h => by
    unfold pri
    rw [List.map_cons, List.sum_cons]
    rcases List.mem_cons.mp hx with rfl | hx
    · omega
    · have := pri_pos hx h
      unfold pri at this
      omega
theorem weak {J : List Int} (meets : ∀ p, IsCut n rs p → ∃ e : Nat, (e : Int) ∈ J ∧ hit rs p e = true) : ∀ F : List Pl, (∀ p, p ∈ F → IsCut n rs p) → F.length ≤ pri (useF rs F) J
  | [], _ => Nat.zero_le _
  | p :: F, h => by
    have ih := weak meets F fun q hq => h q (List.mem_cons_of_mem _ hq)
    obtain ⟨e, he, hh⟩ := meets p (h p (List.mem_cons_self ..))
    have e1 : pri (useF rs (p :: F)) J = pri (useF rs F) J + pri (fun e => (hit rs p e).toNat) J := by
      rw [← pri_add]
      refine congrArg (fun f => pri f J) (funext fun e => ?_)
      show List.countP _ (p :: F) = List.countP _ F + _
      rw [List.countP_cons]
      cases hit rs p e <;> rfl
    have e2 : 1 ≤ pri (fun e => (hit rs p e).toNat) J := pri_pos he (by rw [Int.toNat_natCast, hh]; decide)
    rw [e1, List.length_cons]
    omega
/-- the least price of a minimal join is the greatest number of a packing -/
theorem lp_nu (ro : RoadsOk n rs) {w : Nat → Nat} {k : Nat} (hk : IsNu c w k) : (∃ J, MinJ n rs J ∧ pri w J = k) ∧ ∀ J, MinJ n rs J → k ≤ pri w J := by
  have lo : ∀ J, MinJ n rs J → k ≤ pri w J := fun J hJ => by
    obtain ⟨F, hF, hl⟩ := hk.1
    rw [← hl]
    refine Nat.le_trans (weak hJ.meets F hF.1) (pri_mono fun x hx => ?_)
    have := hJ.rng x hx
    exact hF.2 x.toNat (show x.toNat < rs.length by omega)
  refine ⟨?_, lo⟩
  obtain ⟨F, T, hF, hT, hw⟩ := net_minmax c ro w
  obtain ⟨J, hJ, hJT⟩ := min_sub (n := n) (rs := rs) (T := T) _ ((upto rs.length).filter fun x => T x.toNat) rfl (List.Pairwise.filter _ (asc_upto _)) (fun x hx => mem_upto.mp (List.mem_filter.mp hx).1) (fun p hp => by
    obtain ⟨e, he, h1, h2⟩ := hT p hp
    exact ⟨e, List.mem_filter.mpr ⟨mem_upto.mpr ⟨by omega, by have : e < rs.length := he; omega⟩, by rw [Int.toNat_natCast]; exact h2⟩, h1⟩) fun x hx => (List.mem_filter.mp hx).2
  refine ⟨J, hJ, Nat.le_antisymm ?_ (lo J hJ)⟩
  exact Nat.le_trans (Nat.le_trans (pri_wt (c := c) hJ.asc hJ.rng hJT) hw) (nu_le ⟨F, hF, rfl⟩ hk)

/-! ### packing one by one -/
def less (rs : List Road) (w : Nat → Nat) (p : Pl) : Nat → Nat := fun e => w e - (hit rs p e).toNat
def Legal (rs : List Road) (w : Nat → Nat) (p : Pl) : Prop := ∀ e, e < rs.length → (hit rs p e).toNat ≤ w e
theorem pkc_cons {w : Nat → Nat} {p : Pl} {F : List Pl} (hp : IsCut n rs p) (l : Legal rs w p) (h : Pk (hyg n rs c) (less rs w p) F) : Pk (hyg n rs c) w (p :: F) := by
  refine ⟨fun q hq => ?_, fun e he => ?_⟩
  · rcases List.mem_cons.mp hq with rfl | hq
    · exact hp
    · exact h.1 q hq
  · have h1 := h.2 e he
    have h2 := l e he
    show List.countP _ (p :: F) ≤ w e
    rw [List.countP_cons]
    have h3 : List.countP (fun q => hit rs q e) F ≤ w e - (hit rs p e).toNat := h1
    show List.countP (fun q => hit rs q e) F + (if hit rs p e = true then 1 else 0) ≤ w e
    cases hh : hit rs p e <;> rw [hh] at h2 h3 <;> simp at h2 h3 ⊢ <;> omega
theorem nu_less {w : Nat → Nat} {p : Pl} {k k' : Nat} (hp : IsCut n rs p) (l : Legal rs w p) (hk : IsNu c w k) (hk' : IsNu c (less rs w p) k') : k' + 1 ≤ k := by
  obtain ⟨F, hF, hl⟩ := hk'.1
  exact nu_le ⟨p :: F, pkc_cons hp l hF, by rw [List.length_cons, hl]⟩ hk
/-- p may not be taken at w -/
def Blk (c : Conn n rs) (w : Nat → Nat) (p : Pl) : Prop := ¬ (Legal rs w p ∧ ∀ k k', IsNu c w k → IsNu c (less rs w p) k' → k ≤ k' + 1)
theorem blk_less {w : Nat → Nat} {p q : Pl} (hp : IsCut n rs p) (hq : IsCut n rs q) (l : Legal rs w q) (acc : ∀ k k', IsNu c w k → IsNu c (less rs w q) k' → k ≤ k' + 1) (b : Blk c w p) : Blk c (less rs w q) p := by
  rintro ⟨l2, h2⟩
  refine b ⟨fun e he => Nat.le_trans (l2 e he) (Nat.sub_le _ _), fun k k' hk hk' => ?_⟩
  obtain ⟨k1, hk1⟩ := nu_ex c (less rs w q)
  obtain ⟨k2, hk2⟩ := nu_ex c (less rs (less rs w q) p)
  have a1 := acc k k1 hk hk1
  have a2 := h2 k1 k2 hk1 hk2
  have e : less rs (less rs w q) p = less rs (less rs w p) q := funext fun e => by
    unfold less
    omega
  have l3 : Legal rs (less rs w p) q := fun e he => by
    have x1 := l2 e he
    have x2 := l e he
    unfold less at x1 ⊢
    omega
  rw [e] at hk2
  have a3 := nu_less hq l3 hk' hk2
  omega
theorem all_blk {w : Nat → Nat} {k : Nat} (h : ∀ p, IsCut n rs p → Blk c w p) (hk : IsNu c w k) : k = 0 := by
  refine Classical.byContradiction fun hne => ?_
  obtain ⟨F, hF, hl⟩ := hk.1
  match F, hF, hl with
  | [], _, hl => exact hne hl.symm
  | p :: F, hF, hl =>
    have hp := hF.1 p (List.mem_cons_self ..)
    have us : ∀ e, e < rs.length → List.countP (fun q => hit rs q e) F + (hit rs p e).toNat ≤ w e := fun e he => by
      have : List.countP (fun q => hit rs q e) (p :: F) ≤ w e := hF.2 e he
      rw [List.countP_cons] at this
      cases hh : hit rs p e <;> rw [hh] at this <;> simp at this ⊢ <;> omega
    refine h p hp ⟨fun e he => by have := us e he; omega, fun k1 k' hk1 hk' => ?_⟩
    have e1 : k1 ≤ k := nu_le hk1.1 hk
    have h2 : PkN (hyg n rs c) (less rs w p) F.length := ⟨F, ⟨fun q hq => hF.1 q (List.mem_cons_of_mem _ hq), fun e he => by
      have x1 := us e he
      show List.countP (fun q => hit rs q e) F ≤ less rs w p e
      unfold less
      omega⟩, rfl⟩
    have h3 := nu_le h2 hk'
    rw [List.length_cons] at hl
    omega
/-- what holds while the packing goes on: from w0, fam taken, w left -/
structure Gr (c : Conn n rs) (w0 : Nat → Nat) (fam : List Pl) (w : Nat → Nat) : Prop where
  cuts : ∀ p, p ∈ fam → IsCut n rs p
  rest : ∀ e, e < rs.length → w e + useF rs fam e = w0 e
  nu : ∀ k k0, IsNu c w k → IsNu c w0 k0 → fam.length + k = k0
theorem gr_new (c : Conn n rs) (w : Nat → Nat) : Gr c w [] w := ⟨fun p h => (nomatch h), fun e _ => rfl, fun k k0 h h0 => by
  have := nu_le h.1 h0
  have := nu_le h0.1 h
  show 0 + k = k0
  omega⟩
theorem Gr.take {w0 w : Nat → Nat} {fam : List Pl} {p : Pl} (g : Gr c w0 fam w) (hp : IsCut n rs p) (l : Legal rs w p) (acc : ∀ k k', IsNu c w k → IsNu c (less rs w p) k' → k ≤ k' + 1) : Gr c w0 (fam ++ [p]) (less rs w p) where
  cuts := fun q hq => by
    rcases List.mem_append.mp hq with hq | hq
    · exact g.cuts q hq
    · rw [List.mem_singleton.mp hq]; exact hp
  rest := fun e he => by
    have h1 : w e + List.countP (fun q => hit rs q e) fam = w0 e := g.rest e he
    have h2 := l e he
    show less rs w p e + List.countP _ (fam ++ [p]) = w0 e
    rw [List.countP_append]
    have h3 : List.countP (fun q => hit rs q e) [p] = (hit rs p e).toNat := by
      cases hh : hit rs p e <;> simp [List.countP_cons, hh]
    rw [h3]
    unfold less
    show w e - (hit rs p e).toNat + (List.countP (fun q => hit rs q e) fam + (hit rs p e).toNat) = w0 e
    omega
  nu := fun k k0 h h0 => by
    obtain ⟨k1, hk1⟩ := nu_ex c w
    have a1 := g.nu k1 k0 hk1 h0
    have a2 := acc k1 k hk1 h
    have a3 := nu_less hp l hk1 h
    rw [List.length_append, List.length_singleton]
    omega
/-- what it gives -/
structure Best (n : Nat) (rs : List Road) (fam : List Pl) : Prop where
  cuts : ∀ p, p ∈ fam → IsCut n rs p
  one : ∀ e, e < rs.length → useF rs fam e ≤ 1
  best : ∀ F : List Pl, (∀ p, p ∈ F → IsCut n rs p) → (∀ e, e < rs.length → useF rs F e ≤ 1) → F.length ≤ fam.length
  len : fam.length ≤ rs.length
theorem gr_best {w : Nat → Nat} {fam : List Pl} (g : Gr c (fun _ => 1) fam w) (h : ∀ p, IsCut n rs p → Blk c w p) : Best n rs fam := by
  obtain ⟨k, hk⟩ := nu_ex c w
  obtain ⟨k0, hk0⟩ := nu_ex c fun _ => 1
  have e := all_blk h hk
  subst e
  have e0 := g.nu 0 k0 hk hk0
  have best : ∀ F : List Pl, (∀ p, p ∈ F → IsCut n rs p) → (∀ e, e < rs.length → useF rs F e ≤ 1) → F.length ≤ fam.length := fun F h1 h2 => by
    have := nu_le ⟨F, ⟨h1, h2⟩, rfl⟩ hk0
    omega
  refine ⟨g.cuts, fun e he => by have := g.rest e he; omega, best, ?_⟩
  have := hk0.1.bound
  have e1 : sumN (fun _ => 1) (hyg n rs c).m = rs.length := by
    show sumN (fun _ => 1) rs.length = rs.length
    generalize rs.length = m
    induction m with
    | zero => rfl
    | succ m ih =>
      show sumN (fun _ => 1) m + 1 = m + 1
      rw [ih]
  omega
end Ow
-- OwF1
/-! The defs of sets, roads. -/
namespace Ow
open PySem PySem.Spec PyProof.Rows L2 Evl

abbrev sp_is_integer  : Sp := sp1 dI dB (fun _ => True) fun _ y => y = true
abbrev H_is_integer (P : Program) (w : World) (K : PySem.W.Frag) (mg : Str → Option Value) (base : Heap)  : Prop := FnAt P w K mg base "is_integer" 1 ["thing"] sp_is_integer
theorem ok_is_integer {P : Program} {w : World} {K : PySem.W.Frag} {mg : Str → Option Value} {base : Heap}  (D : DefAt K mg "is_integer" s_is_integer) (B : Bts mg)  : H_is_integer P w K mg base := by
  refine fnAt D sc_is_integer (fun _ _ _ _ _ _ us hl => match us, hl with | [_], _ => rfl) sp1_len fun fad cdv A outer s H vs Q E hr h => ⟨_, PSs.nox (pss_one (ps_ret (pe_and (pe_callB (kIsi K) (by rfl) B.isinstance (by decide +kernel) (pa_cons (pv 0) (pa_cons (pe_bltn (v := .ty "int") (by rfl) B.int (by decide +kernel) rfl) pa_nil))) (pe_one (pe_not (pe_callB (kIsi K) (by rfl) B.isinstance (by decide +kernel) (pa_cons (pv 0) (pa_cons (pe_bltn (v := .ty "bool") (by rfl) B.bool (by decide +kernel) rfl) pa_nil)))))))), ?_⟩
  obtain ⟨v, a, rfl, ra, -, q⟩ := h
  exact k_retV (y := true) (v_and (a := true) (b := true) (v_isi (v_var rfl ra) (.ty _) (fun H2 v _ r => ty_int r) (by rfl)) fun _ => v_not (a := false) (v_isi (v_var rfl ra) (.ty _) (fun H2 v _ r => ty_int r) (by rfl))) fun w H1 x r => q w H1 true x r rfl

abbrev sp_is_between  : Sp := sp3 dI dI dI dB (fun _ _ _ => True) fun t l h y => y = (decide (l ≤ t) && decide (t ≤ h))
abbrev H_is_between (P : Program) (w : World) (K : PySem.W.Frag) (mg : Str → Option Value) (base : Heap)  : Prop := FnAt P w K mg base "is_between" 2 ["thing", "low", "high"] sp_is_between
theorem ok_is_between {P : Program} {w : World} {K : PySem.W.Frag} {mg : Str → Option Value} {base : Heap}  (D : DefAt K mg "is_between" s_is_between) (B : Bts mg) (h_is_integer : H_is_integer P w K mg base)  : H_is_between P w K mg base := by
  refine fnAt D sc_is_between (fun _ _ _ _ _ _ us hl => match us, hl with | [_, _, _], _ => rfl) sp3_len fun fad cdv A outer s H vs Q E hr h => ⟨_, PSs.nox (pss_one (ps_ret (pe_and (pcall h_is_integer hr (by decide) rfl (pa_cons (pv 0) pa_nil)) (pe_one (pe_chain op_le op_le (pv 1) (pv 0) (pv 2)))))), ?_⟩
  obtain ⟨v1, v2, v3, a, b, c, rfl, ra, rb, rc, -, q⟩ := h
  exact k_retV (v_and (a := true) (v_call1 (v_var rfl ra) trivial fun _ z => z) fun _ => v_chain (v_var rfl rb) (v_var rfl ra) (v_var rfl rc)) fun w H1 x r => q w H1 _ x r rfl

abbrev sp_have_common  : Sp := sp2 (dT dI) (dT dI) dB (fun _ _ => True) fun a b y => y = a.any fun t => decide (t ∈ b)
abbrev H_have_common (P : Program) (w : World) (K : PySem.W.Frag) (mg : Str → Option Value) (base : Heap)  : Prop := FnAt P w K mg base "have_common" 1 ["one", "other"] sp_have_common
theorem ok_have_common {P : Program} {w : World} {K : PySem.W.Frag} {mg : Str → Option Value} {base : Heap}  (D : DefAt K mg "have_common" s_have_common) (B : Bts mg)  : H_have_common P w K mg base := by
  refine fnAt D sc_have_common (fun _ _ _ _ _ _ us hl => match us, hl with | [_, _], _ => rfl) sp2_len fun fad cdv A outer s H vs Q E hr h => ⟨_, PSs.nox (pss_one (ps_ret (pe_callB (kAny K) (by rfl) B.any (by decide +kernel) (pa_cons (pe_lc (own := [("thing", 2)]) rfl sc_have_common.nd (kWalk K (pv 0))
      (blkOk_by (own := [("thing", 2)]) (N := N_have_common) (sc := defScope s_have_common) (by decide +kernel))
      (fun _ _ _ _ _ => (pg_name (i := 2) sc_have_common.nd rfl (by first | exact Or.inl rfl | exact Or.inr rfl))) (fun _ _ _ _ _ => pts_nil) (fun _ _ _ _ _ => (pe_cmpR (kIn K) (pv 2) (pv 1) (by rfl)))) pa_nil)))), ?_⟩
  obtain ⟨v1, v2, a, b, rfl, ra, rb, -, q⟩ := h
  refine k_retV (v_any (v_lcN (fun t => decide (t ∈ b)) im_B (s_anyT (v_var rfl ra)) (dT_len ra) b_name (fun _ _ _ ⟨_, e, _⟩ => by subst e; rfl) ?_)) fun w H1 x r => q w H1 _ x r ?_
  · rintro a _ H1 H2 σ' x ⟨y, rfl, r⟩ x2
    exact v_inT (v_var rfl (dI.up x2 r)) (v_var rfl ((dT dI).up (x.trans x2) rb))
  · rw [List.any_map]
    rfl

/-- ascending, all of 0 .. m - 1 -/
def inRg (m a : Int) : Bool := decide (0 ≤ a) && decide (a ≤ m - 1)
def ascB (l : List Int) : Bool := (l.zip (l.drop 1)).all fun p => decide (p.1 < p.2)
def isSet (l : List Int) (m : Int) : Bool := l.all (inRg m) && ascB l
abbrev sp_is_set  : Sp := sp2 (dT dI) dI dB (fun _ _ => True) fun l m y => y = isSet l m
abbrev H_is_set (P : Program) (w : World) (K : PySem.W.Frag) (mg : Str → Option Value) (base : Heap)  : Prop := FnAt P w K mg base "is_set" 3 ["thing", "many"] sp_is_set
theorem ok_is_set {P : Program} {w : World} {K : PySem.W.Frag} {mg : Str → Option Value} {base : Heap}  (D : DefAt K mg "is_set" s_is_set) (B : Bts mg) (h_is_between : H_is_between P w K mg base)  : H_is_set P w K mg base := by
  refine fnAt D sc_is_set (fun _ _ _ _ _ _ us hl => match us, hl with | [_, _], _ => rfl) sp2_len fun fad cdv A outer s H vs Q E hr h => ⟨_, PSs.nox (pss_cons (ps_if (PW.pt (pw_or (pt_not (pt_val (pe_callB (kIsi K) (by rfl) B.isinstance (by decide +kernel) (pa_cons (pv 0) (pa_cons (pe_bltn (v := .ty "tuple") (by rfl) B.tuple (by decide +kernel) rfl) pa_nil))))) (pw_or1 (pt_not (pt_val (pe_callB (kAll K) (by rfl) B.all (by decide +kernel) (pa_cons (pe_lc (own := [("one", 2)]) rfl sc_is_set.nd (kWalk K (pv 0))
      (blkOk_by (own := [("one", 2)]) (N := N_is_set) (sc := defScope s_is_set) (by decide +kernel))
      (fun _ _ _ _ _ => (pg_name (i := 2) sc_is_set.nd rfl (by first | exact Or.inl rfl | exact Or.inr rfl))) (fun _ _ _ _ _ => pts_nil) (fun _ _ _ _ _ => (pcall h_is_between hr (by decide) rfl (pa_cons (pv 2) (pa_cons pe_int (pa_cons (pe_op op_sub (pv 1) pe_int) pa_nil)))))) pa_nil))))))) (pss_one (ps_ret pe_bl)) pss_nil)
    (pss_one (ps_ret (pe_callB (kAll K) (by rfl) B.all (by decide +kernel) (pa_cons (pe_lc (own := [("one", 2), ("other", 3)]) rfl sc_is_set.nd (kZipT K (by rfl) B.zip (pa_cons (pv 0) (pa_cons (pe_slice (kSl K) (pv 0) (po_some pe_int) po_none) pa_nil)))
      (blkOk_by (own := [("one", 2), ("other", 3)]) (N := N_is_set) (sc := defScope s_is_set) (by decide +kernel))
      (fun _ _ _ _ _ => (kTup K (n := 2) (pgs_cons (pg_name (i := 2) sc_is_set.nd rfl (by first | exact Or.inl rfl | exact Or.inr rfl)) (pgs_cons (pg_name (i := 3) sc_is_set.nd rfl (by first | exact Or.inl rfl | exact Or.inr rfl)) pgs_nil)))) (fun _ _ _ _ _ => pts_nil) (fun _ _ _ _ _ => (pe_cmpR op_lt (pv 2) (pv 3) (nomark _)))) pa_nil))))), ?_⟩
  obtain ⟨v1, v2, l, m, rfl, ra, rb, -, q⟩ := h
  refine k_if (b := !l.all (inRg m)) (EvT.is (et_or (a := false) (b := !l.all (inRg m)) (et_not (a := true) (t_B (v_isi (v_var rfl ra) (.ty _) (fun H2 v _ r => ty_tup r) (by rfl)))) fun _ => et_not (a := l.all (inRg m)) (t_B (EvV.is (v_all (v_lcN (inRg m) im_B (s_anyT (v_var rfl ra)) (dT_len ra) b_name (fun _ _ _ ⟨_, e, _⟩ => by subst e; rfl) ?g1)) ?g2))) (by simp)) (fun hb H1 x => ?_) fun hb H1 x => ?_
  case g1 =>
    rintro a _ H1 H2 σ' x ⟨y, rfl, r⟩ x2
    exact v_call3 (v_var rfl (dI.up x2 r)) v_int (v_I0 (v_var rfl (dI.up (x.trans x2) rb)) v_int) trivial fun _ z => z
  case g2 =>
    rw [List.all_map]
    rfl
  · refine k_retV v_bl fun w H2 x2 r => q w H2 _ (x.trans x2) r ?_
    show false = (l.all (inRg m) && ascB l)
    rw [show l.all (inRg m) = false by simpa using hb]
    rfl
  · have ra1 := (dT dI).up x ra
    refine k_retV (v_all (v_lcN (fun p : Int × Int => decide (p.1 < p.2)) im_B (s_zipT (v_var rfl ra1) (v_tailT (v_var rfl ra1))) (by rw [List.length_zip]; have := dT_len ra; omega) b_pair (fun _ _ _ ⟨_, _, e, _⟩ => by subst e; rfl) ?_)) fun w H2 x2 r => q w H2 _ (x.trans x2) r ?_
    · rintro a _ H2 H3 σ' x ⟨y, z, rfl, r1, r2⟩ x3
      exact v_IB (v_var rfl (dI.up x3 r1)) (v_var rfl (dI.up x3 r2))
    · show _ = (l.all (inRg m) && ascB l)
      rw [show l.all (inRg m) = true by simpa using hb, List.all_map]
      rfl

abbrev sp_in_order  : Sp := sp1 (dT dI) (dP dI (dT dI)) (fun _ => True) fun l y => y = ((l.length : Int), l)
abbrev H_in_order (P : Program) (w : World) (K : PySem.W.Frag) (mg : Str → Option Value) (base : Heap)  : Prop := FnAt P w K mg base "in_order" 1 ["row"] sp_in_order
theorem ok_in_order {P : Program} {w : World} {K : PySem.W.Frag} {mg : Str → Option Value} {base : Heap}  (D : DefAt K mg "in_order" s_in_order) (B : Bts mg)  : H_in_order P w K mg base := by
  refine fnAt D sc_in_order (fun _ _ _ _ _ _ us hl => match us, hl with | [_], _ => rfl) sp1_len fun fad cdv A outer s H vs Q E hr h => ⟨_, PSs.nox (pss_one (ps_ret (pe_tup (pa_cons (pe_callB (kLen K) (by rfl) B.len PySem.boot_len (pa_cons (pv 0) pa_nil)) (pa_cons (pv 0) pa_nil))))), ?_⟩
  obtain ⟨v1, l, rfl, ra, -, q⟩ := h
  exact k_retV (v_pair (v_lenT (v_var rfl ra)) (v_var rfl ra)) fun w H1 x r => q w H1 _ x r rfl

/-- the key that in_order gives, as data -/
def kd (K : PySem.W.Frag) (l : Pl) : PyData := (encP (K := K) encI (encT encI)).enc ((l.length : Int), l)
theorem alike_pl (K : PySem.W.Frag) (a b : Pl) : PySem.W.alike (.tuple (a.map .int)) (.tuple (b.map .int)) = true := by
  simp only [PySem.W.alike]
  exact PySem.W.alike_ints a b
theorem kd_alike (K : PySem.W.Frag) (a b : Pl) : PySem.W.alike (kd K a) (kd K b) = true := by
  show PySem.W.alike (.tuple [.int _, .tuple (a.map .int)]) (.tuple [.int _, .tuple (b.map .int)]) = true
  simp only [PySem.W.alike, PySem.W.alikeAll]
  rw [PySem.W.alike_ints a b]
  rfl
section
variable {K : PySem.W.Frag} {σ : L2.St} {H : Hp} {ta : TE} {f : Addr}
theorem p_sortK {l : List Pl} (ha : EvV (dL (dT dI)) ta σ H l ∨ EvV (dT (dT dI)) ta σ H l) : EvP (dL (dT dI)) (tCKw (rSortK K f sp_in_order) (tCons ta tNil) (tCons (tC (.ref f)) tNil)) σ H (fun y => y.Perm l) := fun H1 x Q q => by
  have fin : ∀ H2 p xs, Ex H1 H2 → (SqL K H2 p xs ∨ SqT K H2 p xs) → AllR (dT dI) H2 xs l → l.length ≤ lim → rSortK K f sp_in_order [.ref p] [.ref f] H2 Q := fun H2 p xs x2 hs hx hl => by
    have hlen : xs.length = (l.map (kd K)).length := by rw [List.length_map]; exact Paired.length hx
    refine ⟨p, xs, l.map (kd K), rfl, rfl, hs, hlen, PySem.W.AllAlike.of (kd_alike K), PySem.W.Sortable.tuples fun b => ⟨_, _, rfl⟩, fun d hd => ?_, fun pd hpd H' x' Q' q' => ?_, fun p' H' _ x' hp' => ?_⟩
    · obtain ⟨a, _, rfl⟩ := List.mem_map.mp hd
      exact Nat.le_trans ((encP (K := K) encI (encT encI)).dep _) (by decide)
    · obtain ⟨i, hi, e⟩ := List.getElem_of_mem hpd
      rw [List.length_zip] at hi
      have e1 : xs[i]? = some pd.1 := by rw [← e, List.getElem_zip]; exact List.getElem?_eq_getElem (by omega)
      have e2 : (l.map (kd K))[i]? = some pd.2 := by rw [← e, List.getElem_zip]; exact List.getElem?_eq_getElem (by omega)
      obtain ⟨a, ha, hr⟩ := pd_get hx e1
      rw [List.getElem?_map, ha] at e2
      have e3 : kd K a = pd.2 := Option.some.inj e2
      refine ⟨pd.1, a, rfl, (dT dI).up x' hr, trivial, fun w H3 y x3 r3 ey => q' w H3 x3 ?_⟩
      subst ey
      rw [← e3]
      exact (encP (K := K) encI (encT encI)).dp r3
    · refine q (.ref p') H' (l.mergeSort (PySem.W.dataLe false (kd K))) (x2.trans x') ⟨p', _, rfl, hp', AllR.up x' (pd_sort (kd K) hx), ?_⟩ (List.mergeSort_perm _ _)
      rw [List.length_mergeSort]
      exact hl
  rcases ha with ha | ha
  · exact ha H1 x _ fun v H2 x2 ⟨p, xs, e, hp, hx, hl⟩ => e ▸ fin H2 p xs x2 (.inl (sq_of hp)) hx hl
  · exact ha H1 x _ fun v H2 x2 ⟨p, xs, e, hp, hx, hl⟩ => e ▸ fin H2 p xs x2 (.inr (st_of hp)) hx hl
end
end Ow
-- OwF2
/-! sets_below, spread, roads. -/
namespace Ow
open PySem PySem.Spec PyProof.Rows L2 Evl

/-- all sets of 0 .. n - 1 -/
def subs : Nat → List Pl
  | 0 => [[]]
  | n + 1 => subs n ++ (subs n).map fun r => r ++ [(n : Int)]
theorem subs_len : ∀ n : Nat, (subs n).length = 2 ^ n
  | 0 => rfl
  | n + 1 => by
    rw [subs, List.length_append, List.length_map, subs_len n, Nat.pow_succ]
    omega
theorem subs_in {n : Nat} : ∀ {p : Pl}, p ∈ subs n → Asc p ∧ ∀ x, x ∈ p → 0 ≤ x ∧ x < (n : Int) := by
  induction n with
  | zero =>
    intro p h
    rw [subs, List.mem_singleton] at h
    subst h
    exact ⟨List.Pairwise.nil, fun x h => (nomatch h)⟩
  | succ n ih =>
    intro p h
    rw [subs, List.mem_append] at h
    rcases h with h | h
    · obtain ⟨h1, h2⟩ := ih h
      exact ⟨h1, fun x hx => ⟨(h2 x hx).1, by have := (h2 x hx).2; omega⟩⟩
    · obtain ⟨r, hr, rfl⟩ := List.mem_map.mp h
      obtain ⟨h1, h2⟩ := ih hr
      refine ⟨List.pairwise_append.mpr ⟨h1, List.pairwise_singleton _ _, fun a ha b hb => ?_⟩, fun x hx => ?_⟩
      · rw [List.mem_singleton.mp hb]
        exact (h2 a ha).2
      · rcases List.mem_append.mp hx with hx | hx
        · exact ⟨(h2 x hx).1, by have := (h2 x hx).2; omega⟩
        · rw [List.mem_singleton.mp hx]
          exact ⟨by omega, by omega⟩
theorem subs_all {n : Nat} : ∀ {p : Pl}, Asc p → (∀ x, x ∈ p → 0 ≤ x ∧ x < (n : Int)) → p ∈ subs n := by
  induction n with
  | zero =>
    intro p _ h
    cases p with
    | nil => exact List.mem_singleton.mpr rfl
    | cons x p =>
      have := h x (List.mem_cons_self ..)
      omega
  | succ n ih =>
    intro p ha h
    rw [subs, List.mem_append]
    by_cases hn : (n : Int) ∈ p
    · right
      refine List.mem_map.mpr ⟨p.filter fun x => decide (x ≠ (n : Int)), ih (List.Pairwise.filter _ ha) fun x hx => ?_, ?_⟩
      · obtain ⟨h1, h2⟩ := List.mem_filter.mp hx
        have h3 := h x h1
        have h4 : x ≠ (n : Int) := of_decide_eq_true h2
        omega
      · refine asc_eq ?_ ha fun x => ?_
        · refine List.pairwise_append.mpr ⟨List.Pairwise.filter _ ha, List.pairwise_singleton _ _, fun a h1 b hb => ?_⟩
          obtain ⟨h1, h2⟩ := List.mem_filter.mp h1
          have h3 := h a h1
          have h4 : a ≠ (n : Int) := of_decide_eq_true h2
          rw [List.mem_singleton.mp hb]
          omega
        · rw [List.mem_append, List.mem_filter, List.mem_singleton, decide_eq_true_eq]
          constructor
          · rintro (h1 | h1)
            · exact h1.1
            · rw [h1]; exact hn
          · intro h1
            by_cases e : x = (n : Int)
            · exact .inr e
            · exact .inl ⟨h1, e⟩
    · exact .inl (ih ha fun x hx => ⟨(h x hx).1, by
        have := (h x hx).2
        have : x ≠ (n : Int) := fun e => hn (e ▸ hx)
        omega⟩)

abbrev sp_sets_below  : Sp := sp1 dI (dL (dT dI)) (fun m => 0 ≤ m ∧ m ≤ 10) fun m y => y.Perm (subs m.toNat)
abbrev H_sets_below (P : Program) (w : World) (K : PySem.W.Frag) (mg : Str → Option Value) (base : Heap)  : Prop := FnAt P w K mg base "sets_below" 4 ["many"] sp_sets_below
theorem ok_sets_below {P : Program} {w : World} {K : PySem.W.Frag} {mg : Str → Option Value} {base : Heap}  (D : DefAt K mg "sets_below" s_sets_below) (B : Bts mg) (h_in_order : H_in_order P w K mg base)  : H_sets_below P w K mg base := by
  obtain ⟨f_o, fd_o, M_o, kp_o, b_o, F_o⟩ := h_in_order.ex
  refine fnAt D sc_sets_below (fun _ _ _ _ _ _ us hl => match us, hl with | [_], _ => rfl) sp1_len fun fad cdv A outer s H vs Q E hr h => ⟨_, PSs.nox (pss_cons (ps_set (i := 1) sc_sets_below.nd rfl (by first | exact Or.inl rfl | exact Or.inr rfl) (pe_lst (pa_cons (pe_tup pa_nil) pa_nil)))
    (pss_cons (ps_for PassesOwn.never rfl (pi_range1 (by rfl) B.range (pa_cons (pv 0) pa_nil)) (pg_name (i := 2) sc_sets_below.nd rfl (by first | exact Or.inl rfl | exact Or.inr rfl))
    (pss_one (ps_set (i := 1) sc_sets_below.nd rfl (by first | exact Or.inl rfl | exact Or.inr rfl) (pe_op (kPlus K) (pv 1) (pe_lc (own := [("row", 3)]) rfl sc_sets_below.nd (kWalk K (pv 1))
      (blkOk_by (own := [("row", 3)]) (N := N_sets_below) (sc := defScope s_sets_below) (by decide +kernel))
      (fun _ _ _ _ _ => (pg_name (i := 3) sc_sets_below.nd rfl (by first | exact Or.inl rfl | exact Or.inr rfl))) (fun _ _ _ _ _ => pts_nil) (fun _ _ _ _ _ => (pe_op (kPlus K) (pv 3) (pe_tup (pa_cons (pv 2) pa_nil)))))))))
    (pss_one (ps_ret (pe_callBK (cr_sortK F_o b_o (hr.mono (by decide))) (by rfl) B.sorted (by decide +kernel) (pa_cons (pv 1) pa_nil) (pk_cons (te := tC (.ref f_o)) (by exact pe_glob (v := .ref f_o) rfl M_o rfl) pk_nil)))))), ?_⟩
  obtain ⟨v1, m, rfl, ra, ⟨m0, m1⟩, q⟩ := h
  have hb : ∀ i, i ≤ m.toNat → (subs i).length ≤ 1024 := fun i hi => by
    rw [subs_len]
    have h1 : i ≤ 10 := by omega
    exact Nat.pow_le_pow_right (by decide) h1
  refine k_setV (f := dL (dT dI)) (y := subs 0) (v_lst1 v_tup0) fun w1 H1 x1 r1 => ?_
  refine kq_forR1 (n := m) (v_var rfl (dI.up x1 ra)) (by omega) (by omega) (fun i σ' H' => Ex H H' ∧ ∃ w o, σ' = [some v1, some w, o, none] ∧ dI.r H' v1 m ∧ (dL (dT dI)).r H' w (subs i)) (fun H2 x2 => ⟨x1.trans x2, w1, none, rfl, dI.up (x1.trans x2) ra, (dL (dT dI)).up x2 r1⟩) (fun i σ' H2 hi hp => ?_) fun σ' H2 hp => ?_
  · obtain ⟨x0, w, o, rfl, rm, rw'⟩ := hp
    have b1 := hb i (by omega)
    refine k_setV1 (f := dL (dT dI)) (y := subs (i + 1)) (v_addL (v_var rfl rw') (v_lcN (fun r => r ++ [(i : Int)]) (im_T im_I) (s_anyL (v_var rfl rw')) (by show _ ≤ 4000; omega) b_name (fun _ _ _ ⟨_, e, _⟩ => by subst e; rfl) ?_) (by rw [List.length_map]; show _ ≤ 4000; omega)) fun w3 H3 x3 r3 => ⟨x0.trans x3, w3, _, rfl, dI.up x3 rm, r3⟩
    rintro a ha H3 H4 σ' x3 ⟨y, rfl, r⟩ x4
    have la : a.length ≤ 1000 := by
      have h1 := subs_in ha
      have h2 := (asc_full (n := i) h1.1 h1.2).1
      omega
    exact v_addT (v_var rfl ((dT dI).up x4 r)) (v_tup1 (v_var rfl rfl)) (by show _ + 1 ≤ 4000; omega)
  · obtain ⟨x0, w, o, rfl, rm, rw'⟩ := hp
    exact k_ret (p_sortK (.inl (v_var rfl rw'))) fun z H3 y x3 r3 hy => q z H3 y (x0.trans x3) r3 hy
end Ow
-- OwF3
/-! spread, roads. -/
namespace Ow
open PySem PySem.Spec PyProof.Rows L2 Evl

abbrev sp_is_road  : Sp := sp2 (dP dI dI) dI dB (fun a m => inRg m a.1 = true ∧ inRg m a.2 = true ∧ a.1 ≠ a.2) fun _ _ y => y = true
abbrev H_is_road (P : Program) (w : World) (K : PySem.W.Frag) (mg : Str → Option Value) (base : Heap)  : Prop := FnAt P w K mg base "is_road" 3 ["thing", "many"] sp_is_road
theorem ok_is_road {P : Program} {w : World} {K : PySem.W.Frag} {mg : Str → Option Value} {base : Heap}  (D : DefAt K mg "is_road" s_is_road) (B : Bts mg) (h_is_between : H_is_between P w K mg base)  : H_is_road P w K mg base := by
  refine fnAt D sc_is_road (fun _ _ _ _ _ _ us hl => match us, hl with | [_, _], _ => rfl) sp2_len fun fad cdv A outer s H vs Q E hr h => ⟨_, PSs.nox (pss_cons (ps_if (PW.pt (pw_or (pt_not (pt_val (pe_callB (kIsi K) (by rfl) B.isinstance (by decide +kernel) (pa_cons (pv 0) (pa_cons (pe_bltn (v := .ty "tuple") (by rfl) B.tuple (by decide +kernel) rfl) pa_nil))))) (pw_or (pt_cmpR (kNe K hr.units) (pe_callB (kLen K) (by rfl) B.len PySem.boot_len (pa_cons (pv 0) pa_nil)) pe_int (nomark _)) (pw_or1 (pt_not (pt_val (pe_callB (kAll K) (by rfl) B.all (by decide +kernel) (pa_cons (pe_lc (own := [("one", 2)]) rfl sc_is_road.nd (kWalk K (pv 0))
      (blkOk_by (own := [("one", 2)]) (N := N_is_road) (sc := defScope s_is_road) (by decide +kernel))
      (fun _ _ _ _ _ => (pg_name (i := 2) sc_is_road.nd rfl (by first | exact Or.inl rfl | exact Or.inr rfl))) (fun _ _ _ _ _ => pts_nil) (fun _ _ _ _ _ => (pcall h_is_between hr (by decide) rfl (pa_cons (pv 2) (pa_cons pe_int (pa_cons (pe_op op_sub (pv 1) pe_int) pa_nil)))))) pa_nil)))))))) (pss_one (ps_ret pe_bl)) pss_nil)
    (pss_one (ps_ret (pe_cmpR (kNe K hr.units) (pe_ix (kIx K) (pv 0) pe_int (fun _ _ => rfl)) (pe_ix (kIx K) (pv 0) pe_int (fun _ _ => rfl)) (nomark _))))), ?_⟩
  obtain ⟨v1, v2, a, m, rfl, ra, rb, ⟨p1, p2, p3⟩, q⟩ := h
  refine k_if (b := false) (EvT.is (et_or (a := false) (b := false) (et_not (a := true) (t_B (v_isi (v_var rfl ra) (.ty _) (fun H2 v _ r => ty_pair r) (by rfl)))) fun _ => et_or (a := false) (b := false) (t_test (EvV.is (v_ne encI (v_lenP (v_var rfl ra)) v_int) (by rfl))) fun _ => et_not (a := true) (t_B (EvV.is (v_all (v_lcN (inRg m) im_B (s_anyP (v_var rfl ra)) (by show 2 ≤ 4000; decide) b_name (fun _ _ _ ⟨_, e, _⟩ => by subst e; rfl) ?g1)) ?g2))) (by rfl)) (fun hb => (nomatch hb)) fun _ H1 x => ?_
  case g1 =>
    rintro c _ H1 H2 σ' x ⟨y, rfl, r⟩ x2
    exact v_call3 (v_var rfl (dI.up x2 r)) v_int (v_I0 (v_var rfl (dI.up (x.trans x2) rb)) v_int) trivial fun _ z => z
  case g2 =>
    rw [List.all_map]
    show (inRg m a.1 && (inRg m a.2 && true)) = true
    rw [p1, p2]
    rfl
  · have ra1 := (dP dI dI).up x ra
    exact k_retV (v_ne encI (v_ixP0 (v_var rfl ra1)) (v_ixP1 (v_var rfl ra1))) fun w H2 x2 r => q w H2 _ (x.trans x2) r (decide_eq_true p3)

theorem countP_two {α : Type} {p q c : α → Bool} : ∀ {l : List α}, (∀ r, r ∈ l → p r = true → c r = true ∧ q r = false) → (∀ r, r ∈ l → q r = true → c r = true) → l.countP p + l.countP q ≤ l.countP c
  | [], _, _ => Nat.le_refl _
  | r :: l, h1, h2 => by
    have ih := countP_two (l := l) (fun s hs => h1 s (List.mem_cons_of_mem _ hs)) fun s hs => h2 s (List.mem_cons_of_mem _ hs)
    rw [List.countP_cons, List.countP_cons, List.countP_cons]
    have a1 := h1 r (List.mem_cons_self ..)
    have a2 := h2 r (List.mem_cons_self ..)
    cases hp : p r with
    | true =>
      obtain ⟨b1, b2⟩ := a1 hp
      rw [b1, b2]
      simp only [if_true, Bool.false_eq_true, if_false]
      omega
    | false =>
      cases hq : q r with
      | true =>
        rw [a2 hq]
        simp only [if_true, Bool.false_eq_true, if_false]
        omega
      | false =>
        simp only [Bool.false_eq_true, if_false]
        omega
/-- what a turn of spread adds -/
def more (R : List Int) (x : Int) (rs : List Road) : List Int := (rs.filter fun r => decide (r.1 = x) && decide (r.2 ∉ R)).map Prod.snd
theorem more_len (R : List Int) (x : Int) (rs : List Road) : (R ++ more R x rs).length + rs.countP (fun r => decide (r.2 ∉ R ++ more R x rs)) ≤ R.length + rs.countP fun r => decide (r.2 ∉ R) := by
  have h := countP_two (l := rs) (p := fun r => decide (r.1 = x) && decide (r.2 ∉ R)) (q := fun r => decide (r.2 ∉ R ++ more R x rs)) (c := fun r => decide (r.2 ∉ R)) (fun r hr hp => by
    rw [Bool.and_eq_true] at hp
    refine ⟨hp.2, decide_eq_false fun h => h (List.mem_append_right _ (List.mem_map.mpr ⟨r, List.mem_filter.mpr ⟨hr, ?_⟩, rfl⟩))⟩
    rw [hp.1, hp.2]
    rfl) fun r hr hq => decide_eq_true fun h => (of_decide_eq_true hq) (List.mem_append_left _ h)
  have e : (more R x rs).length = rs.countP fun r => decide (r.1 = x) && decide (r.2 ∉ R) := by
    unfold more
    rw [List.length_map, List.countP_eq_length_filter]
  rw [List.length_append, e]
  omega
structure SprI (ps : Pl) (rs : List Road) (R : List Int) (at_ : Nat) : Prop where
  sub : ∀ x, x ∈ ps → x ∈ R
  cl : ∀ i x, i < at_ → R[i]? = some x → ∀ r, r ∈ rs → r.1 = x → r.2 ∈ R
  len : R.length + rs.countP (fun r => decide (r.2 ∉ R)) ≤ ps.length + rs.length
  le : at_ ≤ R.length
theorem SprI.go {ps : Pl} {rs : List Road} {R : List Int} {i : Nat} {x : Int} (h : SprI ps rs R i) (hx : R[i]? = some x) : SprI ps rs (R ++ more R x rs) (i + 1) where
  sub := fun y hy => List.mem_append_left _ (h.sub y hy)
  cl := fun j y hj hy r hr e => by
    have hl : i < R.length := (List.getElem?_eq_some_iff.mp hx).1
    rw [List.getElem?_append_left (by omega)] at hy
    by_cases hji : j = i
    · subst hji
      rw [hx] at hy
      cases hy
      by_cases hm : r.2 ∈ R
      · exact List.mem_append_left _ hm
      · refine List.mem_append_right _ (List.mem_map.mpr ⟨r, List.mem_filter.mpr ⟨hr, ?_⟩, rfl⟩)
        rw [decide_eq_true e, decide_eq_true hm]
        rfl
    · exact List.mem_append_left _ (h.cl j y (by omega) hy r hr e)
  len := Nat.le_trans (more_len R x rs) h.len
  le := by
    have hl : i < R.length := (List.getElem?_eq_some_iff.mp hx).1
    rw [List.length_append]
    omega
abbrev sp_spread  : Sp := sp2 (dT dI) (dL (dP dI dI)) (dT dI) (fun ps rs => ps.length + rs.length < 64) fun ps rs y => Asc y ∧ (∀ x, x ∈ ps → x ∈ y) ∧ ∀ r, r ∈ rs → r.1 ∈ y → r.2 ∈ y
abbrev H_spread (P : Program) (w : World) (K : PySem.W.Frag) (mg : Str → Option Value) (base : Heap)  : Prop := FnAt P w K mg base "spread" 1 ["places", "roads"] sp_spread
theorem ok_spread {P : Program} {w : World} {K : PySem.W.Frag} {mg : Str → Option Value} {base : Heap}  (D : DefAt K mg "spread" s_spread) (B : Bts mg)  : H_spread P w K mg base := by
  refine fnAt D sc_spread (fun _ _ _ _ _ _ us hl => match us, hl with | [_, _], _ => rfl) sp2_len fun fad cdv A outer s H vs Q E hr h => ⟨_, PSs.nox (pss_cons (ps_set (i := 2) sc_spread.nd rfl (by first | exact Or.inl rfl | exact Or.inr rfl) (pe_callTy (kList K) (by rfl) B.list (by decide +kernel) (pa_cons (pv 0) pa_nil)))
    (pss_cons (ps_set (i := 3) sc_spread.nd rfl (by first | exact Or.inl rfl | exact Or.inr rfl) pe_int)
    (pss_cons (ps_while PassesOwn.never (pt_cmpR op_lt (pv 3) (pe_callB (kLen K) (by rfl) B.len PySem.boot_len (pa_cons (pv 2) pa_nil)) (nomark _)) (pss_cons (ps_expr (pe_bm PySem.F.plainAttrs_list PySem.F.slot_list_extend PySem.F.type_list_extend mt_extend (pv 2) (pa_cons (pe_lc (own := [("first", 4), ("last", 5)]) rfl sc_spread.nd (kWalk K (pv 1))
      (blkOk_by (own := [("first", 4), ("last", 5)]) (N := N_spread) (sc := defScope s_spread) (by decide +kernel))
      (fun _ _ _ _ _ => (kTup K (n := 2) (pgs_cons (pg_name (i := 4) sc_spread.nd rfl (by first | exact Or.inl rfl | exact Or.inr rfl)) (pgs_cons (pg_name (i := 5) sc_spread.nd rfl (by first | exact Or.inl rfl | exact Or.inr rfl)) pgs_nil)))) (fun _ _ _ _ _ => (pts_one (PW.pt (pw_and (pt_cmpR (kEq K hr.units) (pv 4) (pe_ix (kIx K) (pv 2) (pv 3) (fun _ _ => rfl)) (nomark _)) (pw_and1 (pt_cmpR (kNotIn K) (pv 5) (pv 2) (by rfl))))))) (fun _ _ _ _ _ => (pv 5))) pa_nil)))
    (pss_one (ps_aug (i := 3) sc_spread.nd rfl (by first | exact Or.inl rfl | exact Or.inr rfl) pe_int ip_add))))
    (pss_one (ps_ret (pe_callTy (kTuple K) (by rfl) B.tuple (by decide +kernel) (pa_cons (pe_callB (kSortSet w) (by rfl) B.sorted (by decide +kernel) (pa_cons (pe_callTy (kSet K w) (by rfl) B.set (by decide +kernel) (pa_cons (pv 2) pa_nil)) pa_nil)) pa_nil))))))), ?_⟩
  obtain ⟨v1, v2, ps, rs, rfl, ra, rb, hlt, q⟩ := h
  obtain ⟨p, xs, rfl, hp, hx, _⟩ := id ra
  have hx := allI hx
  subst hx
  refine ⟨.ref p, rfl, p, ps.map V.int, rfl, .inr (st_of hp), fun l hl => ?_⟩
  have x1 : Ex H (upd H l (.lst (ps.map V.int))) := Ex.new hl
  refine k_setV (f := dI) (y := 0) v_int fun w H1 x2 r2 => ?_
  obtain rfl : w = V.int 0 := r2
  refine q_while (fun m σ' H' => ∃ (R : List Int) (i : Nat), σ' = [some (.ref p), some v2, some (.ref l), some (.int (i : Int)), none, none] ∧ Ex H H' ∧ H' l = some (.lst (R.map V.int)) ∧ SprI ps rs R i ∧ m = 200 - i) 200
    ⟨ps, 0, rfl, x1.trans x2, x2 l _ upd_same, ⟨fun _ h => h, fun i x hi => absurd hi (Nat.not_lt_zero i), by have := List.countP_le_length (p := fun r : Road => decide (r.2 ∉ ps)) (l := rs); omega, Nat.zero_le _⟩, rfl⟩ ?_
  rintro m σ' H' ⟨R, i, rfl, x3, hR, hI, rfl⟩
  have hRl : R.length < 64 := by have := hI.len; omega
  have rR : (dL dI).r H' (.ref l) R := ⟨l, _, rfl, hR, allI' _ R, by show _ ≤ 4000; omega⟩
  refine ⟨decide ((i : Int) < (R.length : Int)), t_test (v_IB (v_var rfl rfl) (v_lenL (v_var rfl rR))), fun hb H2 x4 => ?_, fun hb H2 x4 => ?_⟩
  · have hi : i < R.length := by have := of_decide_eq_true hb; omega
    have hget : R[i]? = some R[i] := List.getElem?_eq_getElem hi
    have rR2 := (dL dI).up x4 rR
    refine ⟨fun σ2 H3 => ∃ (R' : List Int), σ2 = [some (.ref p), some v2, some (.ref l), some (.int ((i + 1 : Nat) : Int)), none, none] ∧ Ex H H3 ∧ H3 l = some (.lst (R'.map V.int)) ∧ SprI ps rs R' (i + 1), ?_, ?_⟩
    · rintro σ2 H3 ⟨R', rfl, y1, y2, y3⟩
      exact ⟨200 - (i + 1), by omega, R', i + 1, rfl, y1, y2, y3, rfl⟩
    · have hml : (more R R[i] rs).length ≤ rs.length := by
        unfold more
        rw [List.length_map]
        exact List.length_filter_le _ _
      refine kq_ext (f := dI) (l := more R R[i] rs) rfl (x4 l _ hR) (by rw [List.length_map]; omega) (v_lc (fun r : Road => decide (r.1 = R[i]) && decide (r.2 ∉ R)) Prod.snd im_I (s_anyL (v_var rfl ((dL (dP dI dI)).up (x3.trans x4) rb))) (by show _ ≤ 4000; omega) b_pair (fun _ _ _ ⟨_, _, e, _⟩ => by subst e; rfl) ?_ ?_) fun zs H3 x5 r5 => ?_
      · rintro r hr H3 σ' x5 ⟨y, z, rfl, ry, rz⟩
        exact et_and (t_test (v_eq encI (v_var rfl ry) (v_ixL (v_var rfl ((dL dI).up x5 rR2)) (v_var rfl rfl) (by omega) (by simpa using hget)))) fun _ => t_test (v_notInL (v_var rfl rz) (v_var rfl ((dL dI).up x5 rR2)))
      · rintro r hr H3 H4 σ' x5 ⟨y, z, rfl, ry, rz⟩ x6 _
        exact v_var rfl (dI.up x6 rz)
      · have r5 := allI r5
        subst r5
        refine k_aug (a := (i : Int)) rfl v_int fun H4 x6 => ⟨R ++ more R R[i] rs, ?_, ?_, ?_, hI.go hget⟩
        · rw [show ((i : Int) + 1) = ((i + 1 : Nat) : Int) by omega]
          rfl
        · exact ((Ex.trans x3 (x4.trans x5)).mut hl).trans x6
        · rw [List.map_append]
          exact x6 l _ upd_same
  · have hi : i = R.length := by
      have h1 := of_decide_eq_false hb
      have h2 := hI.le
      omega
    refine k_ret (p_tuple (p_sortSet (.inl (v_var rfl ((dL dI).up x4 rR))) hRl)) fun w H3 y x5 r5 hy => q w H3 y ((x3.trans x4).trans x5) r5 ⟨hy.1, fun x hx => (hy.2 x).mpr (hI.sub x hx), fun r hr h1 => (hy.2 _).mpr ?_⟩
    obtain ⟨j, hj, e⟩ := List.getElem_of_mem ((hy.2 _).mp h1)
    exact hI.cl j r.1 (by omega) (by rw [List.getElem?_eq_getElem hj, e]) r hr rfl

abbrev sp_together_with  : Sp := sp2 dI (dL (dP dI dI)) (dT dI) (fun _ rs => rs.length ≤ 20) fun x rs y => Asc y ∧ x ∈ y ∧ ∀ r, r ∈ rs → (r.1 ∈ y ↔ r.2 ∈ y)
abbrev H_together_with (P : Program) (w : World) (K : PySem.W.Frag) (mg : Str → Option Value) (base : Heap)  : Prop := FnAt P w K mg base "together_with" 2 ["place", "roads"] sp_together_with
theorem ok_together_with {P : Program} {w : World} {K : PySem.W.Frag} {mg : Str → Option Value} {base : Heap}  (D : DefAt K mg "together_with" s_together_with) (B : Bts mg) (h_spread : H_spread P w K mg base)  : H_together_with P w K mg base := by
  refine fnAt D sc_together_with (fun _ _ _ _ _ _ us hl => match us, hl with | [_, _], _ => rfl) sp2_len fun fad cdv A outer s H vs Q E hr h => ⟨_, PSs.nox (pss_one (ps_ret (pcall h_spread hr (by decide) rfl (pa_cons (pe_tup (pa_cons (pv 0) pa_nil)) (pa_cons (pe_op (kPlus K) (pe_callTy (kList K) (by rfl) B.list (by decide +kernel) (pa_cons (pv 1) pa_nil)) (pe_lc (own := [("first", 2), ("last", 3)]) rfl sc_together_with.nd (kWalk K (pv 1))
      (blkOk_by (own := [("first", 2), ("last", 3)]) (N := N_together_with) (sc := defScope s_together_with) (by decide +kernel))
      (fun _ _ _ _ _ => (kTup K (n := 2) (pgs_cons (pg_name (i := 2) sc_together_with.nd rfl (by first | exact Or.inl rfl | exact Or.inr rfl)) (pgs_cons (pg_name (i := 3) sc_together_with.nd rfl (by first | exact Or.inl rfl | exact Or.inr rfl)) pgs_nil)))) (fun _ _ _ _ _ => pts_nil) (fun _ _ _ _ _ => (pe_tup (pa_cons (pv 3) (pa_cons (pv 2) pa_nil)))))) pa_nil))))), ?_⟩
  obtain ⟨v1, v2, x, rs, rfl, ra, rb, hlt, q⟩ := h
  refine k_ret (p_call2V (a := [x]) (b := rs ++ rs.map fun r => (r.2, r.1)) (v_tup1 (v_var rfl ra)) (v_addL (v_listL (v_var rfl rb)) (v_lcN (fun r : Road => (r.2, r.1)) (im_P im_I im_I) (s_anyL (v_var rfl rb)) (by show _ ≤ 4000; omega) b_pair (fun _ _ _ ⟨_, _, e, _⟩ => by subst e; rfl) ?_) (by rw [List.length_map]; show _ ≤ 4000; omega)) (by rw [List.length_append, List.length_map]; show 1 + _ < 64; omega)) fun w H1 y x1 r1 hy => q w H1 y x1 r1 ?_
  · rintro r hr H3 H4 σ' x5 ⟨y, z, rfl, ry, rz⟩ x6
    exact v_pair (v_var rfl (dI.up x6 rz)) (v_var rfl (dI.up x6 ry))
  · obtain ⟨h1, h2, h3⟩ := hy
    refine ⟨h1, h2 x (List.mem_singleton.mpr rfl), fun r hr => ⟨h3 r (List.mem_append_left _ hr), h3 (r.2, r.1) (List.mem_append_right _ (List.mem_map.mpr ⟨r, hr, rfl⟩))⟩⟩
end Ow
-- OwN
/-! The class Net: its instances, its properties, its length. -/
namespace Ow
open PySem PySem.Spec PyProof.Rows L2 Evl

/-- a net: the number of places, the roads -/
abbrev NetD := Int × List Road
def dNet (C : Addr) : Rl NetD := ⟨fun H v N => ∃ a dx fs u, v = .ref a ∧ H a = some (.ins C dx fs) ∧ fs.lookup ("count" : Str) = some (V.int N.1) ∧ fs.lookup ("row" : Str) = some u ∧ (dT (dP dI dI)).r H u N.2, fun x ⟨a, dx, fs, u, e, h, h1, h2, h3⟩ => ⟨a, dx, fs, u, e, x _ _ h, h1, h2, (dT (dP dI dI)).up x h3⟩⟩
theorem dNet_len {C : Addr} {H : Hp} {v : V} {N : NetD} (r : (dNet C).r H v N) : N.2.length ≤ lim := by
  obtain ⟨_, _, _, _, _, _, _, _, h⟩ := r
  exact dT_len h
/-- a property of the class at C whose getter gives the attribute fld -/
def PropAt (P : Program) (w : World) (K : PySem.W.Frag) (mg : Str → Option Value) (base : Heap) (C : Addr) (f fld : Str) : Prop := ∃ p g fd, PropOf K C f p g ∧ FnOk P w K mg base CX0 1 g fd ["self"] (getSp C fld) ∧ L2.Binds K fd ["self"] []
theorem pprop {X : Cx} {C : Addr} {f fld : Str} {e : Expr} {ta : TE} {pos : Pos} {j : Nat} (c : Cls X.K C) (h : PropAt X.prog X.w X.K X.mg X.base C f fld) (hr : Room j X.A) (hk : 2 ≤ j) (he : PE X e ta) (hab : attributeBase e f X.env (eval e X.env) = eval e X.env := by rfl) :
    PE X (.Attribute e f pos) (tProp C (getSp C fld) [] E0 ta) := by
  obtain ⟨p, g, fd, hp, F, hb⟩ := h
  exact pe_prop he c hp F (hr.mono hk) hb .nil (fun _ _ _ _ _ _ _ h => h.elim) hab
section
variable {σ : L2.St} {H : Hp} {ta : TE} {C : Addr} {N : NetD}
theorem v_many (h : EvV (dNet C) ta σ H N) : EvV dI (tProp C (getSp C "count") [] E0 ta) σ H N.1 := fun H1 x Q q => h H1 x _ fun v H2 x2 ⟨a, dx, fs, u, e, h0, h1, h2, h3⟩ => ⟨a, dx, fs, e, h0, a, dx, fs, _, rfl, h0, h1, q _ H2 x2 rfl⟩
theorem v_roads (h : EvV (dNet C) ta σ H N) : EvV (dT (dP dI dI)) (tProp C (getSp C "row") [] E0 ta) σ H N.2 := fun H1 x Q q => h H1 x _ fun v H2 x2 ⟨a, dx, fs, u, e, h0, h1, h2, h3⟩ => ⟨a, dx, fs, e, h0, a, dx, fs, u, rfl, h0, h2, q _ H2 x2 h3⟩
end
/-- len(net), by the class's own def -/
def spNlen (C : Addr) : Sp := sp1 (dNet C) dI (fun _ => True) fun N y => y = (N.2.length : Int)
def LenAt (P : Program) (w : World) (K : PySem.W.Frag) (mg : Str → Option Value) (base : Heap) (C : Addr) : Prop := ∃ f fd, PySem.W.findIn K (.ref C) "__len__" = some (some (.ref f)) ∧ PySem.W.isFn K (.ref f) = true ∧ FnOk P w K mg base CX0 1 f fd ["self"] (spNlen C) ∧ L2.Binds K fd ["self"] []
def rLenN (C : Addr) : List V → Hp → VK → Prop := fun vs H Q => ∃ v N, vs = [v] ∧ (dNet C).r H v N ∧ ∀ H', Ex H H' → Q (.int (N.2.length : Int)) H'
theorem kLenN {X : Cx} {C : Addr} {j : Nat} (h : LenAt X.prog X.w X.K X.mg X.base C) (hr : Room j X.A) (hk : 2 ≤ j) : CallR X (.builtin "len") (rLenN C) := by
  obtain ⟨f, fd, hf, hfn, F, hb⟩ := h
  intro pins s σ H vs us Q I r h
  obtain ⟨v, N, rfl, rN, q⟩ := h
  obtain ⟨a, dx, fs, u, rfl, h0, h1, h2, h3⟩ := id rN
  obtain rfl := Vals.ref1 r
  obtain ⟨mA, O, _, _, _, _⟩ := ins_get I.hok h0
  obtain ⟨od, J, _⟩ := O.look
  obtain ⟨m, Fm⟩ := I.fr
  have hr1 : Room 1 X.A.in1 := (hr.mono hk).in1
  have hsp : spNlen C [.ref a] H (fun z H' => z = .int (N.2.length : Int) ∧ Ex H H') E0 := ⟨.ref a, N, rfl, rN, trivial, fun w H' y x rw' ey => by
    subst ey
    exact ⟨rw', x⟩⟩
  refine PySem.W.len_K Fm I.ok.mod.kin J hf hfn (wpAny_call (codeAny_mono (F.run X.A.in1 X.stack s H ⟨[.ref a], []⟩ [.ref a] [.ref a] _ E0 hr1 I.env0.in1 (by have := hb s [.ref a] I.kIn rfl; simpa using this) (.cons rfl .nil) hsp) fun r s' hq => ?_))
  cases r with
  | error e => exact hq.elim
  | ok fl =>
    cases fl with
    | ret u' =>
      obtain ⟨w, H2, I2, rw', e, x⟩ := I.after hq
      subst e
      obtain ⟨t, rfl⟩ := rw'
      have hl := dT_len h3
      have hl2 : N.2.length ≤ 4000 := hl
      exact ⟨⟨by omega, by omega⟩, .int (N.2.length : Int), H2, I2.tok _, ⟨_, rfl⟩, q H2 x⟩
    | next => exact False.elim hq
    | brk => exact False.elim hq
    | cont => exact False.elim hq
theorem v_lenN {σ : L2.St} {H : Hp} {ta : TE} {C : Addr} {N : NetD} (h : EvV (dNet C) ta σ H N) : EvV dI (tCB (rLenN C) (tCons ta tNil)) σ H (N.2.length : Int) := v_cb1 h fun H2 v _ r1 Q q => ⟨v, N, rfl, r1, fun H' x => q _ H' x rfl⟩
/-- isinstance(net, Net) -/
structure IsN (K : PySem.W.Frag) (C : Addr) : Prop where
  ca : PySem.W.findIn K (.ref C) "__class__" = some (some (.builtin "object.__class__"))
  cn : PySem.W.specialIn K (.builtin "object.__class__") "__get__" = some (some (.builtin "getset_descriptor.__get__"))
  ct : PySem.W.takesIn K (.builtin "object.__class__") = some true
  cm : PySem.W.mroIn K C (.type "object") = some true
  kit : PySem.W.kitOne K (.ref C) (.ref C) = some true
theorem ty_net {K : PySem.W.Frag} {C : Addr} (c : Cls K C) (i : IsN K C) {H : Hp} {v : V} {N : NetD} (r : (dNet C).r H v N) : TyX K H v (.ref C) := by
  obtain ⟨a, dx, fs, u, rfl, h0, _⟩ := r
  exact .base (.ins h0 c i.ca i.cn i.ct i.cm)
/-- what the frame says of the class -/
structure NetK (P : Program) (w : World) (K : PySem.W.Frag) (mg : Str → Option Value) (base : Heap) (C : Addr) : Prop where
  cls : Cls K C
  mgn : mg "Net" = some (.ref C)
  many : PropAt P w K mg base C "many" "count"
  roads : PropAt P w K mg base C "roads" "row"
  len : LenAt P w K mg base C
  isn : IsN K C
end Ow
-- OwM
/-! More rules: walks that outlast stores, two clauses, lists or tuples, a value or None. -/
namespace Ow
open PySem PySem.Spec PyProof.Rows L2 Evl
section
variable {α β γ : Type} {K : PySem.W.Frag} {σ : L2.St} {H H' : Hp} {te ta tb tc : TE} {t u : TT} {e : Rl α} {f : Rl β} {g : Rl γ} {wi : TI} {D : Ends} {tu tw tz : TS} {l : List α}
/-- a walk that outlasts stores to lists -/
def WkT (e : Rl α) (J : It) (l : List α) (H : Hp) : Prop := ∀ H', Tx H H' → (∀ i, i < l.length → J.go i H') ∧ J.stop l.length H' ∧ ∀ i x H'', i < l.length → J.yld i H' x H'' → H'' = H' ∧ ∃ a, l[i]? = some a ∧ e.r H' x a
def SrcT (e : Rl α) (wi : TI) (σ : L2.St) (H : Hp) (l : List α) : Prop := ∀ H1, Ex H H1 → ∀ R : It → Hp → Prop, (∀ J H2, Ex H1 H2 → WkT e J l H2 → R J H2) → wi σ H1 R
theorem s_anyTT (im : Im e) (h : EvV (dT e) te σ H l) : SrcT e (iAny K te) σ H l := fun H1 x R q => h H1 x _ fun v H2 x2 ⟨p, xs, e1, hq, ha, _⟩ => ⟨p, e1, .inr ⟨⟨xs, st_of hq⟩, q _ H2 x2 fun H' tx => by
  have w := walk_tup (K := K) (a := p) (xs := xs)
  have el : l.length = xs.length := (Paired.length ha).symm
  have hq' : SqT K H' p xs := st_of (tx _ _ hq)
  refine ⟨fun i hi => w.goes i H' (by omega) hq', by rw [el]; exact w.stops H' hq', fun i y H'' hi yl => ?_⟩
  obtain ⟨h1, h2⟩ := w.yields i H' y H'' (by omega) hq' yl
  obtain ⟨a, h3, h4⟩ := pd_get ha h2
  exact ⟨h1, a, h3, im tx h4⟩⟩⟩
theorem flat_take {G : α → List β} {l : List α} {i : Nat} {a : α} (h : l[i]? = some a) (j : Nat) : ((l.take i).flatMap G ++ (G a).take j).length ≤ (l.flatMap G).length := by
  have hl := (List.getElem?_eq_some_iff.mp h).1
  have e1 : l.flatMap G = (l.take i).flatMap G ++ (l.drop i).flatMap G := by rw [← List.flatMap_append, List.take_append_drop]
  have e2 : l.drop i = a :: l.drop (i + 1) := by
    rw [List.drop_eq_getElem_cons hl]
    obtain ⟨_, e⟩ := List.getElem?_eq_some_iff.mp h
    rw [e]
  rw [e1, e2, List.flatMap_cons, List.length_append, List.length_append, List.length_append, List.length_take]
  omega
/-- [x for a in l for x in G a] -/
theorem v_lc2 {wi1 : TI} {j j1 : Nat} {vs vs1 : List Nat} (G : α → List β) (im : Im f) (hs : Src e wi σ H l) (hl : (l.flatMap G).length ≤ lim)
    (hw : ∀ x, wipe ((wipe σ vs).set j (some x)) vs = wipe σ vs) (hw1 : ∀ x y, wipe ((wipe ((wipe σ vs).set j (some x)) vs1).set j1 (some y)) vs1 = wipe ((wipe σ vs).set j (some x)) vs1)
    (hs1 : ∀ a, a ∈ l → ∀ x H1, Ex H H1 → e.r H1 x a → SrcT f wi1 ((wipe σ vs).set j (some x)) H1 (G a))
    (he : ∀ x y b H1, f.r H1 y b → EvV f te ((wipe ((wipe σ vs).set j (some x)) vs1).set j1 (some y)) H1 b) :
    EvV (dL f) (tLc2 wi (gName j) tYes wi1 (gName j1) tYes te vs vs1) σ H (l.flatMap G) := fun H0 x0 Q q => hs H0 x0 _ fun J H1 x1 wk Dl hD => by
  refine ⟨fun i m H' => m = l.length - i ∧ i ≤ l.length ∧ Ex H1 H' ∧ ∃ xs, H' Dl = some (.lst xs) ∧ AllR f H' xs ((l.take i).flatMap G), ⟨l.length, rfl, Nat.zero_le _, Ex.new hD, [], upd_same, by rw [List.take_zero]; exact .nil⟩, ?_⟩
  rintro i m H2 ⟨rfl, hi, x2, xs, hxs, hr⟩
  obtain ⟨w1, w2, w3⟩ := wk H2 x2
  by_cases lt : i < l.length
  · refine .inr ⟨w1 i lt, fun H' => Ex H1 H' ∧ ∃ xs, H' Dl = some (.lst xs) ∧ AllR f H' xs ((l.take (i + 1)).flatMap G), fun H' hn => ⟨l.length - (i + 1), by omega, rfl, lt, hn⟩, fun y H3 yl => ?_⟩
    obtain ⟨x3, a, hai, ra⟩ := w3 i y H3 lt yl
    have hm : a ∈ l := List.mem_of_getElem? hai
    have et : (l.take (i + 1)).flatMap G = (l.take i).flatMap G ++ G a := by
      rw [List.take_add_one, hai, List.flatMap_append]
      show _ ++ ([a].flatMap G) = _
      rw [List.flatMap_singleton]
    refine ⟨hw y, ?_⟩
    show wi1 _ H3 _
    refine hs1 a hm y H3 ((x0.trans x1).trans (x2.trans x3)) ra H3 (Ex.refl H3) _ fun J1 H4 x4 wk1 => ?_
    have hD4 : H4 Dl = some (.lst xs) := x4 Dl _ (x3 Dl _ hxs)
    refine ⟨fun jj k H' => k = (G a).length - jj ∧ jj ≤ (G a).length ∧ Ex H1 H' ∧ Tx H4 H' ∧ ∃ zs, H' Dl = some (.lst zs) ∧ AllR f H' zs ((l.take i).flatMap G ++ (G a).take jj), ⟨(G a).length, rfl, Nat.zero_le _, x2.trans (x3.trans x4), Tx.refl H4, xs, hD4, by rw [List.take_zero, List.append_nil]; exact AllR.up (x3.trans x4) hr⟩, ?_⟩
    rintro jj k H5 ⟨rfl, hj, y1, y2, zs, hzs, hrz⟩
    obtain ⟨u1, u2, u3⟩ := wk1 H5 y2
    by_cases lt1 : jj < (G a).length
    · refine .inr ⟨u1 jj lt1, fun H' => Ex H1 H' ∧ Tx H4 H' ∧ ∃ zs, H' Dl = some (.lst zs) ∧ AllR f H' zs ((l.take i).flatMap G ++ (G a).take (jj + 1)), fun H' hn => ⟨(G a).length - (jj + 1), by omega, rfl, lt1, hn⟩, fun z H6 yl1 => ?_⟩
      obtain ⟨rfl, b, hb, rb⟩ := u3 jj z H6 lt1 yl1
      refine ⟨hw1 y z, ?_⟩
      show te _ H6 _
      refine he y z b H6 rb H6 (Ex.refl H6) _ fun w H7 x7 r7 => ?_
      have hD7 : H7 Dl = some (.lst zs) := x7 Dl _ hzs
      have hzl : zs.length ≤ (l.flatMap G).length := by
        rw [Paired.length hrz]
        exact flat_take hai jj
      have tx : Tx H6 (upd H7 Dl (.lst (zs ++ [w]))) := (Tx.of x7).trans (Tx.upd hD7)
      refine ⟨zs, hD7, Nat.lt_of_le_of_lt (Nat.le_trans hzl hl) (by decide), Ex.mut (y1.trans x7) hD, y2.trans tx, zs ++ [w], upd_same, ?_⟩
      have e3 : (G a).take (jj + 1) = (G a).take jj ++ [b] := by
        rw [List.take_add_one, hb]
        rfl
      rw [e3, ← List.append_assoc]
      exact pd_app (AllR.im im tx hrz) (.cons (im (Tx.upd hD7) r7) .nil)
    · have e1 : jj = (G a).length := by omega
      subst e1
      rw [List.take_length] at hrz
      refine .inl ⟨u2, y1, zs, hzs, ?_⟩
      rw [et]
      exact hrz
  · have e1 : i = l.length := by omega
    subst e1
    rw [List.take_length] at hr
    refine .inl ⟨w2, q _ H2 (x1.trans x2) ⟨Dl, xs, rfl, hxs, hr, hl⟩⟩
/-- a comprehension over a list of which something is known -/
theorem p_lc {tg : TG} {vs : List Nat} {P : List α → Prop} {R : List β → Prop} (hv : EvP (dL e) ta σ H P) (k : ∀ l H1 te', Ex H H1 → P l → EvV (dL e) te' σ H1 l → EvP (dL f) (tLc (iAny K te') tg t te vs) σ H1 R) : EvP (dL f) (tLc (iAny K ta) tg t te vs) σ H R := fun H1 x Q q =>
  hv H1 x _ fun v H2 l x2 r pl => k l H2 (fun _ H Q => Q v H) (x.trans x2) pl (fun H3 x3 Q' q' => q' v H3 (Ex.refl H3) ((dL e).up x3 r)) H2 (Ex.refl H2) Q fun w H4 y x4 r4 py => q w H4 y (x2.trans x4) r4 py
/-- a list or a tuple -/
def dU (e : Rl α) : Rl (List α) := ⟨fun H v l => (dL e).r H v l ∨ (dT e).r H v l, fun x h => h.imp ((dL e).up x) ((dT e).up x)⟩
theorem v_lenU (ha : EvV (dU e) ta σ H l) : EvV dI (tCB (rLenU K) (tCons ta tNil)) σ H (l.length : Int) := v_cb1 ha fun H2 v _ r1 Q q => by
  rcases r1 with r1 | r1
  · obtain ⟨p, xs, rfl, hp, hx, _⟩ := r1
    exact ⟨_, l.length, rfl, .inl ⟨xs, sq_of hp, (Paired.length hx).symm⟩, q _ H2 (Ex.refl H2) rfl⟩
  · obtain ⟨p, xs, rfl, hp, hx, _⟩ := r1
    exact ⟨_, l.length, rfl, .inr ⟨xs, st_of hp, (Paired.length hx).symm⟩, q _ H2 (Ex.refl H2) rfl⟩
theorem v_ixU {i : Int} {a : α} (ha : EvV (dU e) ta σ H l) (hb : EvV dI tb σ H i) (h0 : 0 ≤ i) (h : l[i.toNat]? = some a) : EvV e (tOp (rIx K) ta tb) σ H a := v_op ha hb fun H2 v w _ r1 r2 Q q => by
  rcases r1 with r1 | r1
  · obtain ⟨p, xs, rfl, hp, hx, _⟩ := r1
    obtain ⟨x, h1, h2⟩ := pd_get' hx h
    exact .inl ⟨p, xs, i, x, rfl, r2, sq_of hp, at_of (by omega) h1, q _ H2 (Ex.refl H2) h2⟩
  · obtain ⟨p, xs, rfl, hp, hx, _⟩ := r1
    obtain ⟨x, h1, h2⟩ := pd_get' hx h
    exact .inr (.inl ⟨p, xs, i, x, rfl, r2, st_of hp, at_of (by omega) h1, q _ H2 (Ex.refl H2) h2⟩)
theorem dU_len {v : V} {l : List α} (r : (dU e).r H v l) : l.length ≤ lim := r.elim dL_len dT_len
theorem p_sortKU {l : List Pl} {f : Addr} (ha : EvV (dU (dT dI)) ta σ H l) : EvP (dL (dT dI)) (tCKw (rSortK K f sp_in_order) (tCons ta tNil) (tCons (tC (.ref f)) tNil)) σ H (fun y => y.Perm l) := fun H1 x Q q => ha H1 x _ fun v H2 x2 r => by
  have hc : EvP (dL (dT dI)) (tCKw (rSortK K f sp_in_order) (tCons (fun _ H Q => Q v H) tNil) (tCons (tC (.ref f)) tNil)) σ H2 (fun y => y.Perm l) := by
    rcases r with r | r
    · exact p_sortK (.inl fun H3 x3 Q' q' => q' v H3 (Ex.refl H3) ((dL (dT dI)).up x3 r))
    · exact p_sortK (.inr fun H3 x3 Q' q' => q' v H3 (Ex.refl H3) ((dT (dT dI)).up x3 r))
  exact hc H2 (Ex.refl H2) Q fun w H3 y x3 r3 py => q w H3 y (x2.trans x3) r3 py
/-- a value, or None -/
def dO (e : Rl α) : Rl (Option α) := ⟨fun H v o => match o with
  | none => v = .non
  | some a => v ≠ .non ∧ e.r H v a, fun {H H' v o} x h => by
    cases o with
    | none => exact h
    | some a => exact ⟨h.1, e.up x h.2⟩⟩
theorem t_notN {i : Nat} {v : V} {o : Option α} (h : σ[i]? = some (some v)) (r : (dO e).r H v o) : EvT (tTest (tOp rIsNot (tVar i) (tC .non))) σ H o.isSome := fun H1 x Q q => ⟨v, h, rfl, !decide (v = .non), rfl, by
  cases o with
  | none =>
    have r : v = .non := r
    rw [r]
    exact q H1 (Ex.refl H1)
  | some a =>
    have r := r.1
    rw [decide_eq_false r]
    exact q H1 (Ex.refl H1)⟩
theorem v_cnt {k : Int} (ha : EvV (dL dI) ta σ H l') (hb : EvV dI tb σ H k) : EvV dI (tBM K "list" (rCntI K) ta (tCons tb tNil)) σ H ((l'.count k : Nat) : Int) := fun H1 x Q q =>
  ha H1 x _ fun v H2 x2 r => by
    obtain ⟨p, xs, rfl, hp, hx, _⟩ := r
    have hx := allI hx
    subst hx
    exact ⟨.inl ⟨rfl, _, sq_of hp⟩, hb H2 (x.trans x2) _ fun w H3 x3 r3 => ⟨p, l', k, rfl, by rw [show w = V.int k from r3], sq_of (x3 _ _ hp), q _ H3 (x2.trans x3) rfl⟩⟩
end
/-- rows.count within a block -/
theorem pcnt {X : Cx} (K : PySem.W.Frag) {o e : Expr} {to te : TE} {apos cpos : Pos} (ho : PE X o to) (he : PE X e te) (hK : X.K = K := by rfl)
    (hbase : attributeBase o "count" X.env (eval o X.env) = eval o X.env := by rfl)
    (hfew : ((backTo cpos (starEach [e] X.env)).all (fun x => !x.1) && (backToKw cpos (keywordEach [] X.env)).all (fun x => x.1.isSome)
      && decide (([e] : List Expr).length + ([] : List Keyword).length + (if ([] : List Keyword).isEmpty then 0 else 1) < 30)) = true := by rfl)
    (hline : (apos.endLine == cpos.line) = true := by rfl) (hs : starEach [e] X.env = (false, eval e X.env) :: starEach [] X.env := by rfl) :
    PE X (.Call (.Attribute o "count" apos) [e] [] cpos) (tBM K "list" (rCntI K) to (tCons te tNil)) := hK ▸ pe_bm PySem.F.plainAttrs_list PySem.F.slot_list_count PySem.F.type_list_count mt_lcount ho (pa_cons he pa_nil hs) hbase hfew hline hs rfl
/-! ### new lists -/
section
variable {α β γ : Type} {K : PySem.W.Frag} {σ : L2.St} {H H' : Hp} {te ta tb tc : TE} {t u : TT} {e : Rl α} {f : Rl β} {wi : TI} {D : Ends} {tz : TS} {l : List α}
/-- it makes a new list, of data with P -/
def EvN (e : Rl α) (te : TE) (σ : L2.St) (H : Hp) (P : List α → Prop) : Prop := ∀ H1, Ex H H1 → ∀ Q : VK, (∀ p H2 xs y, H1 p = none → Ex H1 H2 → H2 p = some (.lst xs) → AllR e H2 xs y → y.length ≤ lim → P y → Q (.ref p) H2) → te σ H1 Q
theorem k_setN {i : Nat} {P : List β → Prop} (h : EvN f te σ H P) (k : ∀ p H1 xs y, H p = none → Ex H H1 → H1 p = some (.lst xs) → AllR f H1 xs y → y.length ≤ lim → P y → tz D (σ.set i (some (.ref p))) H1) : tSeq (tAsg te (gName i)) tz D σ H := h H (Ex.refl H) _ k
theorem k_setN1 {i : Nat} {P : List β → Prop} (h : EvN f te σ H P) (k : ∀ p H1 xs y, H p = none → Ex H H1 → H1 p = some (.lst xs) → AllR f H1 xs y → y.length ≤ lim → P y → D.nx (σ.set i (some (.ref p))) H1) : tAsg te (gName i) D σ H := h H (Ex.refl H) _ k
theorem n_lst0 : EvN e (tLst tNil) σ H (fun y => y = []) := fun H1 x Q q => ⟨Nat.zero_le _, fun p hp => q p _ [] [] hp (Ex.new hp) upd_same .nil (Nat.zero_le _) rfl⟩
theorem n_lst1 {a : α} (ha : EvV e ta σ H a) : EvN e (tLst (tCons ta tNil)) σ H (fun y => y = [a]) := fun H1 x Q q =>
  ha H1 x _ fun v H2 x2 r1 => ⟨by show 1 ≤ sizeLine; decide, fun p hp => q p _ [v] [a] (fresh_back x2 hp) (x2.trans (Ex.new hp)) upd_same (.cons (e.up (Ex.new hp) r1) .nil) (by show 1 ≤ lim; decide) rfl⟩
theorem n_listT (ha : EvV (dT e) ta σ H l) : EvN e (tCB (rListOf K) (tCons ta tNil)) σ H (fun y => y = l) := fun H1 x Q q => ha H1 x _ fun v H2 x2 r1 => by
  obtain ⟨p, xs, rfl, hp, hx, hl⟩ := r1
  exact ⟨p, xs, rfl, .inr (st_of hp), fun l hq => q l _ xs _ (fresh_back x2 hq) (x2.trans (Ex.new hq)) upd_same (AllR.up (Ex.new hq) hx) hl rfl⟩
theorem n_listL (ha : EvV (dL e) ta σ H l) : EvN e (tCB (rListOf K) (tCons ta tNil)) σ H (fun y => y = l) := fun H1 x Q q => ha H1 x _ fun v H2 x2 r1 => by
  obtain ⟨p, xs, rfl, hp, hx, hl⟩ := r1
  exact ⟨p, xs, rfl, .inl (sq_of hp), fun l hq => q l _ xs _ (fresh_back x2 hq) (x2.trans (Ex.new hq)) upd_same (AllR.up (Ex.new hq) hx) hl rfl⟩
theorem n_if {b : Bool} {P : List α → Prop} (h : EvT t σ H b) (h1 : b = true → EvN e ta σ H P) (h2 : b = false → EvN e tb σ H P) : EvN e (tIf t ta tb) σ H P := fun H1 x Q q => h H1 x _ fun H2 x2 => by
  cases b with
  | true =>
    show ta σ H2 Q
    exact h1 rfl H2 (x.trans x2) Q fun p H3 xs y hp x3 h3 h4 h5 h6 => q p H3 xs y (fresh_back x2 hp) (x2.trans x3) h3 h4 h5 h6
  | false =>
    show tb σ H2 Q
    exact h2 rfl H2 (x.trans x2) Q fun p H3 xs y hp x3 h3 h4 h5 h6 => q p H3 xs y (fresh_back x2 hp) (x2.trans x3) h3 h4 h5 h6
theorem EvN.imp {P P' : List α → Prop} (h : EvN e te σ H P) (k : ∀ y, P y → P' y) : EvN e te σ H P' := fun H1 x Q q => h H1 x Q fun p H2 xs y a b c d f g => q p H2 xs y a b c d f (k y g)
/-- a comprehension's list is new -/
theorem n_lcN {tg : TG} {vs : List Nat} {S : α → Hp → L2.St → Prop} (G : α → β) (im : Im f) (hs : Src e wi σ H l) (hl : l.length ≤ lim) (hb : Bind e tg (wipe σ vs) S)
    (hw : ∀ a H1 σ', S a H1 σ' → wipe σ' vs = wipe σ vs) (he : ∀ a, a ∈ l → ∀ H1 H2 σ', Ex H H1 → S a H1 σ' → Ex H1 H2 → EvV f te σ' H2 (G a)) :
    EvN f (tLc wi tg tYes te vs) σ H (fun y => y = l.map G) := fun H0 x0 Q q => hs H0 x0 _ fun J H1 x1 wk Dl hD => by
  refine ⟨fun i m H' => m = l.length - i ∧ i ≤ l.length ∧ Ex H1 H' ∧ ∃ xs, H' Dl = some (.lst xs) ∧ AllR f H' xs ((l.take i).map G), ⟨l.length, rfl, Nat.zero_le _, Ex.new hD, [], upd_same, by rw [List.take_zero]; exact .nil⟩, ?_⟩
  rintro i m H2 ⟨rfl, hi, x2, xs, hxs, ha⟩
  obtain ⟨w1, w2, w3⟩ := wk H2 x2
  by_cases lt : i < l.length
  · refine .inr ⟨w1 i lt, fun H' => Ex H1 H' ∧ ∃ xs, H' Dl = some (.lst xs) ∧ AllR f H' xs ((l.take (i + 1)).map G), fun H' hn => ⟨l.length - (i + 1), by omega, rfl, lt, hn⟩, fun y H3 yl => ?_⟩
    obtain ⟨x3, a, hai, hr⟩ := w3 i y H3 lt yl
    have hm : a ∈ l := List.mem_of_getElem? hai
    have et : l.take (i + 1) = l.take i ++ [a] := by
      rw [List.take_add_one, hai]
      rfl
    have x03 : Ex H H3 := ((x0.trans x1).trans x2).trans x3
    refine hb y H3 a hr _ fun σ' H4 x4 hS => ⟨hw a H4 σ' hS, ?_⟩
    show te σ' H4 _
    refine he a hm H4 H4 σ' (x03.trans x4) hS (Ex.refl H4) H4 (Ex.refl H4) _ fun w H6 x6 r6 => ?_
    have hD6 : H6 Dl = some (.lst xs) := x6 Dl _ (x4 Dl _ (x3 Dl _ hxs))
    have hxl : xs.length ≤ l.length := by
      rw [Paired.length ha, List.length_map, List.length_take]
      omega
    refine ⟨xs, hD6, Nat.lt_of_le_of_lt (Nat.le_trans hxl hl) (by decide), Ex.mut ((x2.trans x3).trans (x4.trans x6)) hD, xs ++ [w], upd_same, ?_⟩
    rw [et, List.map_append]
    have tx : Tx H2 (upd H6 Dl (.lst (xs ++ [w]))) := (Tx.of ((x3.trans x4).trans x6)).trans (Tx.upd hD6)
    exact pd_app (AllR.im im tx ha) (.cons (im (Tx.upd hD6) r6) .nil)
  · have e1 : i = l.length := by omega
    subst e1
    rw [List.take_length] at ha
    exact .inl ⟨w2, q Dl H2 xs _ (fresh_back x1 hD) (x1.trans x2) hxs ha (by rw [List.length_map]; exact hl) rfl⟩
theorem n_sortKU {l : List Pl} {f : Addr} (ha : EvV (dU (dT dI)) ta σ H l) : EvN (dT dI) (tCKw (rSortK K f sp_in_order) (tCons ta tNil) (tCons (tC (.ref f)) tNil)) σ H (fun y => y.Perm l) := fun H1 x Q q => by
  have fin : ∀ H2 p xs, Ex H1 H2 → (SqL K H2 p xs ∨ SqT K H2 p xs) → AllR (dT dI) H2 xs l → l.length ≤ lim → rSortK K f sp_in_order [.ref p] [.ref f] H2 Q := fun H2 p xs x2 hs hx hl => by
    have hlen : xs.length = (l.map (kd K)).length := by rw [List.length_map]; exact Paired.length hx
    refine ⟨p, xs, l.map (kd K), rfl, rfl, hs, hlen, PySem.W.AllAlike.of (kd_alike K), PySem.W.Sortable.tuples fun b => ⟨_, _, rfl⟩, fun d hd => ?_, fun pd hpd H' x' Q' q' => ?_, fun p' H' hn' x' hp' => ?_⟩
    · obtain ⟨a, _, rfl⟩ := List.mem_map.mp hd
      exact Nat.le_trans ((encP (K := K) encI (encT encI)).dep _) (by decide)
    · obtain ⟨i, hi, e⟩ := List.getElem_of_mem hpd
      rw [List.length_zip] at hi
      have e1 : xs[i]? = some pd.1 := by rw [← e, List.getElem_zip]; exact List.getElem?_eq_getElem (by omega)
      have e2 : (l.map (kd K))[i]? = some pd.2 := by rw [← e, List.getElem_zip]; exact List.getElem?_eq_getElem (by omega)
      obtain ⟨a, ha, hr⟩ := pd_get hx e1
      rw [List.getElem?_map, ha] at e2
      have e3 : kd K a = pd.2 := Option.some.inj e2
      refine ⟨pd.1, a, rfl, (dT dI).up x' hr, trivial, fun w H3 y x3 r3 ey => q' w H3 x3 ?_⟩
      subst ey
      rw [← e3]
      exact (encP (K := K) encI (encT encI)).dp r3
    · exact q p' H' _ (l.mergeSort (PySem.W.dataLe false (kd K))) (fresh_back x2 hn') (x2.trans x') hp' (AllR.up x' (pd_sort (kd K) hx)) (by rw [List.length_mergeSort]; exact hl) (List.mergeSort_perm _ _)
  refine ha H1 x _ fun v H2 x2 r => ?_
  rcases r with ⟨p, xs, e, hp, hx, hl⟩ | ⟨p, xs, e, hp, hx, hl⟩
  · exact e ▸ fin H2 p xs x2 (.inl (sq_of hp)) hx hl
  · exact e ▸ fin H2 p xs x2 (.inr (st_of hp)) hx hl
end
/-- the text's constants -/
structure Gls (mg : Str → Option Value) : Prop where
  MOST_CUTS : ∃ t, mg "MOST_CUTS" = some (.int 16 t)
  MOST_PLACES : ∃ t, mg "MOST_PLACES" = some (.int 6 t)
  MOST_ROADS : ∃ t, mg "MOST_ROADS" = some (.int 10 t)
  HEAD : ∃ t, mg "HEAD" = some (.str "places " t)
theorem pe_gint {X : Cx} {x : Str} {i : Int} {pos : Pos} (hg : Gl X x) (h : ∃ t, X.mg x = some (.int i t)) (hd : (x == ("__debug__" : Str)) = false := by decide) : PE X (.Name x pos) (tC (.int i)) := by
  obtain ⟨t, h⟩ := h
  exact pe_glob hg h ⟨t, rfl⟩ hd
theorem pe_gstr {X : Cx} {x z : Str} {pos : Pos} (hg : Gl X x) (h : ∃ t, X.mg x = some (.str z t)) (hd : (x == ("__debug__" : Str)) = false := by decide) : PE X (.Name x pos) (tC (.str z)) := by
  obtain ⟨t, h⟩ := h
  exact pe_glob hg h ⟨t, rfl⟩ hd
end Ow
-- OwF4
/-! Cuts. -/
namespace Ow
open PySem PySem.Spec PyProof.Rows L2 Evl

def closedB (rs : List Road) (p : Pl) : Bool := !rs.any fun r => decide (r.1 ∈ p) && decide (r.2 ∉ p)
def cutB (N : NetD) (p : Pl) : Bool := isSet p N.1 && ((decide ((0 : Int) < (p.length : Int)) && decide ((p.length : Int) < N.1)) && closedB N.2 p)
def into (rs : List Road) (p : Pl) : List Int := ((enumI rs).filter fun a => decide (a.2.1 ∉ p) && decide (a.2.2 ∈ p)).map Prod.fst

abbrev sp_need_net (C : Addr) : Sp := sp1 (dNet C) dN (fun _ => True) fun _ _ => True
abbrev H_need_net (P : Program) (w : World) (K : PySem.W.Frag) (mg : Str → Option Value) (base : Heap) (C : Addr) : Prop := FnAt P w K mg base "need_net" 1 ["thing"] (sp_need_net C)
theorem ok_need_net {P : Program} {w : World} {K : PySem.W.Frag} {mg : Str → Option Value} {base : Heap} {C : Addr} (D : DefAt K mg "need_net" s_need_net) (B : Bts mg) (NK : NetK P w K mg base C)  : H_need_net P w K mg base C := by
  refine fnAt D sc_need_net (fun _ _ _ _ _ _ us hl => match us, hl with | [_], _ => rfl) sp1_len fun fad cdv A outer s H vs Q E hr h => ⟨_, PSs.nox (pss_one (ps_if (pt_not (pt_val (pe_callB (kIsi K) (by rfl) B.isinstance (by decide +kernel) (pa_cons (pv 0) (pa_cons (pe_glob (v := .ref C) rfl NK.mgn rfl) pa_nil))))) (pss_one ps_never) pss_nil)), ?_⟩
  obtain ⟨v, N, rfl, ra, -, q⟩ := h
  exact k_when (b := false) (et_not (a := true) (t_B (v_isi (v_var rfl ra) (.own C) (fun H2 v _ r => ty_net NK.cls NK.isn r) NK.isn.kit))) (fun hb => (nomatch hb)) fun _ H1 x => q .non H1 () x rfl trivial

abbrev sp_is_closed (C : Addr) : Sp := sp2 (dNet C) (dT dI) dB (fun _ _ => True) fun N p y => y = closedB N.2 p
abbrev H_is_closed (P : Program) (w : World) (K : PySem.W.Frag) (mg : Str → Option Value) (base : Heap) (C : Addr) : Prop := FnAt P w K mg base "is_closed" 3 ["net", "places"] (sp_is_closed C)
theorem ok_is_closed {P : Program} {w : World} {K : PySem.W.Frag} {mg : Str → Option Value} {base : Heap} {C : Addr} (D : DefAt K mg "is_closed" s_is_closed) (B : Bts mg) (NK : NetK P w K mg base C)  : H_is_closed P w K mg base C := by
  refine fnAt D sc_is_closed (fun _ _ _ _ _ _ us hl => match us, hl with | [_, _], _ => rfl) sp2_len fun fad cdv A outer s H vs Q E hr h => ⟨_, PSs.nox (pss_one (ps_ret (pe_not (pe_callB (kAny K) (by rfl) B.any (by decide +kernel) (pa_cons (pe_lc (own := [("first", 2), ("last", 3)]) rfl sc_is_closed.nd (kWalk K (pprop NK.cls NK.roads hr (by decide) (pv 0)))
      (blkOk_by (own := [("first", 2), ("last", 3)]) (N := N_is_closed) (sc := defScope s_is_closed) (by decide +kernel))
      (fun _ _ _ _ _ => (kTup K (n := 2) (pgs_cons (pg_name (i := 2) sc_is_closed.nd rfl (by first | exact Or.inl rfl | exact Or.inr rfl)) (pgs_cons (pg_name (i := 3) sc_is_closed.nd rfl (by first | exact Or.inl rfl | exact Or.inr rfl)) pgs_nil)))) (fun _ _ _ _ _ => pts_nil) (fun _ _ _ _ _ => (pe_and (pe_cmpR (kIn K) (pv 2) (pv 1) (by rfl)) (pe_one (pe_cmpR (kNotIn K) (pv 3) (pv 1) (by rfl)))))) pa_nil))))), ?_⟩
  obtain ⟨v, v2, N, p, rfl, ra, rb, -, q⟩ := h
  refine k_retV (v_not (v_any (v_lcN (fun r : Road => decide (r.1 ∈ p) && decide (r.2 ∉ p)) im_B (s_anyT (v_roads (v_var rfl ra))) (dNet_len ra) b_pair (fun _ _ _ ⟨_, _, e, _⟩ => by subst e; rfl) ?_))) fun w H1 x r => q w H1 _ x r ?_
  · rintro a _ H1 H2 σ' x ⟨y, z, rfl, r1, r2⟩ x2
    exact v_and (v_inT (v_var rfl (dI.up x2 r1)) (v_var rfl ((dT dI).up (x.trans x2) rb))) fun _ => v_notInT (v_var rfl (dI.up x2 r2)) (v_var rfl ((dT dI).up (x.trans x2) rb))
  · rw [List.any_map]
    rfl

abbrev sp_is_a_cut (C : Addr) : Sp := sp2 (dNet C) (dT dI) dB (fun _ _ => True) fun N p y => y = cutB N p
abbrev H_is_a_cut (P : Program) (w : World) (K : PySem.W.Frag) (mg : Str → Option Value) (base : Heap) (C : Addr) : Prop := FnAt P w K mg base "is_a_cut" 4 ["net", "thing"] (sp_is_a_cut C)
theorem ok_is_a_cut {P : Program} {w : World} {K : PySem.W.Frag} {mg : Str → Option Value} {base : Heap} {C : Addr} (D : DefAt K mg "is_a_cut" s_is_a_cut) (B : Bts mg) (h_is_set : H_is_set P w K mg base) (h_is_closed : H_is_closed P w K mg base C) (NK : NetK P w K mg base C)  : H_is_a_cut P w K mg base C := by
  refine fnAt D sc_is_a_cut (fun _ _ _ _ _ _ us hl => match us, hl with | [_, _], _ => rfl) sp2_len fun fad cdv A outer s H vs Q E hr h => ⟨_, PSs.nox (pss_one (ps_ret (pe_and (pcall h_is_set hr (by decide) rfl (pa_cons (pv 1) (pa_cons (pprop NK.cls NK.many hr (by decide) (pv 0)) pa_nil))) (pe_and (pe_chain op_lt op_lt pe_int (pe_callB (kLen K) (by rfl) B.len PySem.boot_len (pa_cons (pv 1) pa_nil)) (pprop NK.cls NK.many hr (by decide) (pv 0))) (pe_one (pcall h_is_closed hr (by decide) rfl (pa_cons (pv 0) (pa_cons (pv 1) pa_nil)))))))), ?_⟩
  obtain ⟨v, v2, N, p, rfl, ra, rb, -, q⟩ := h
  exact k_retV (v_and (v_call2 (v_var rfl rb) (v_many (v_var rfl ra)) trivial fun _ z => z) fun _ => v_and (v_chain v_int (v_lenT (v_var rfl rb)) (v_many (v_var rfl ra))) fun _ => v_call2 (v_var rfl ra) (v_var rfl rb) trivial fun _ z => z) fun w H1 x r => q w H1 _ x r rfl

abbrev sp_roads_into (C : Addr) : Sp := sp2 (dNet C) (dT dI) (dT dI) (fun _ _ => True) fun N p y => y = into N.2 p
abbrev H_roads_into (P : Program) (w : World) (K : PySem.W.Frag) (mg : Str → Option Value) (base : Heap) (C : Addr) : Prop := FnAt P w K mg base "roads_into" 3 ["net", "places"] (sp_roads_into C)
theorem ok_roads_into {P : Program} {w : World} {K : PySem.W.Frag} {mg : Str → Option Value} {base : Heap} {C : Addr} (D : DefAt K mg "roads_into" s_roads_into) (B : Bts mg) (NK : NetK P w K mg base C)  : H_roads_into P w K mg base C := by
  refine fnAt D sc_roads_into (fun _ _ _ _ _ _ us hl => match us, hl with | [_, _], _ => rfl) sp2_len fun fad cdv A outer s H vs Q E hr h => ⟨_, PSs.nox (pss_cons (ps_setLc (i := 2) (own := [("at", 3), ("road", 4)]) rfl sc_roads_into.nd rfl rfl (sw_true rfl rfl rfl (by decide +kernel)) (kEnumT K (by rfl) B.enumerate (pa_cons (pprop NK.cls NK.roads hr (by decide) (pv 0)) pa_nil))
      (blkOk_by (own := [("at", 3), ("road", 4)]) (N := N_roads_into) (sc := defScope s_roads_into) (by decide +kernel))
      (fun _ _ _ _ _ => (kTup K (n := 2) (pgs_cons (pg_name (i := 3) sc_roads_into.nd rfl (by first | exact Or.inl rfl | exact Or.inr rfl)) (pgs_cons (pg_name (i := 4) sc_roads_into.nd rfl (by first | exact Or.inl rfl | exact Or.inr rfl)) pgs_nil)))) (fun _ _ _ _ _ => (pts_one (PW.pt (pw_and (pt_cmpR (kNotIn K) (pe_ix (kIx K) (pv 4) pe_int (fun _ _ => rfl)) (pv 1) (by rfl)) (pw_and1 (pt_cmpR (kIn K) (pe_ix (kIx K) (pv 4) pe_int (fun _ _ => rfl)) (pv 1) (by rfl))))))) (fun _ _ _ _ _ => (pv 3)))
    (pss_one (ps_ret (pe_callTy (kTuple K) (by rfl) B.tuple (by decide +kernel) (pa_cons (pv 2) pa_nil))))), ?_⟩
  obtain ⟨v, v2, N, p, rfl, ra, rb, -, q⟩ := h
  refine k_setV (v_lc (fun a : Int × Road => decide (a.2.1 ∉ p) && decide (a.2.2 ∈ p)) Prod.fst im_I (s_enumT (v_roads (v_var rfl ra))) (by rw [enumI_len]; exact dNet_len ra) b_pair (fun _ _ _ ⟨_, _, e, _⟩ => by subst e; rfl) ?_ ?_) fun w H1 x1 r1 => k_retV (v_tuple (v_var rfl r1)) fun w2 H2 x2 r2 => q w2 H2 _ (x1.trans x2) r2 rfl
  · rintro a _ H1 σ' x ⟨y, z, rfl, r1, r2⟩
    exact et_and (t_test (v_notInT (v_ixP0 (v_var rfl r2)) (v_var rfl ((dT dI).up x rb)))) fun _ => t_test (v_inT (v_ixP1 (v_var rfl r2)) (v_var rfl ((dT dI).up x rb)))
  · rintro a _ H1 H2 σ' x ⟨y, z, rfl, r1, r2⟩ x2 _
    exact v_var rfl (dI.up x2 r1)

abbrev sp_cuts_of (C : Addr) : Sp := sp1 (dNet C) (dL (dT dI)) (fun N => 0 ≤ N.1 ∧ N.1 ≤ 10) fun N y => ∃ l : List Pl, l.Perm (subs N.1.toNat) ∧ y = l.filter (cutB N)
abbrev H_cuts_of (P : Program) (w : World) (K : PySem.W.Frag) (mg : Str → Option Value) (base : Heap) (C : Addr) : Prop := FnAt P w K mg base "cuts_of" 5 ["net"] (sp_cuts_of C)
theorem ok_cuts_of {P : Program} {w : World} {K : PySem.W.Frag} {mg : Str → Option Value} {base : Heap} {C : Addr} (D : DefAt K mg "cuts_of" s_cuts_of) (B : Bts mg) (h_sets_below : H_sets_below P w K mg base) (h_is_a_cut : H_is_a_cut P w K mg base C) (NK : NetK P w K mg base C)  : H_cuts_of P w K mg base C := by
  refine fnAt D sc_cuts_of (fun _ _ _ _ _ _ us hl => match us, hl with | [_], _ => rfl) sp1_len fun fad cdv A outer s H vs Q E hr h => ⟨_, PSs.nox (pss_one (ps_ret (pe_lc (own := [("places", 1)]) rfl sc_cuts_of.nd (kWalk K (pcall h_sets_below hr (by decide) rfl (pa_cons (pprop NK.cls NK.many hr (by decide) (pv 0)) pa_nil)))
      (blkOk_by (own := [("places", 1)]) (N := N_cuts_of) (sc := defScope s_cuts_of) (by decide +kernel))
      (fun _ _ _ _ _ => (pg_name (i := 1) sc_cuts_of.nd rfl (by first | exact Or.inl rfl | exact Or.inr rfl))) (fun _ _ _ _ _ => (pts_one (pt_val (pcall h_is_a_cut hr (by decide) rfl (pa_cons (pv 0) (pa_cons (pv 1) pa_nil)))))) (fun _ _ _ _ _ => (pv 1))))), ?_⟩
  obtain ⟨v, N, rfl, ra, hN, q⟩ := h
  refine k_ret (p_lc (R := fun y => ∃ l : List Pl, l.Perm (subs N.1.toNat) ∧ y = l.filter (cutB N)) (p_call1V (v_many (v_var rfl ra)) hN) fun l H1 te' x1 hl hv => EvV.p (v_lc (cutB N) id (im_T im_I) (s_anyL hv) ?_ b_name (fun _ _ _ ⟨_, e, _⟩ => by subst e; rfl) ?_ ?_) ⟨l, hl, by rw [List.map_id]⟩) fun w H1 y x r hy => q w H1 y x r hy
  · rw [hl.length_eq, subs_len]
    show _ ≤ 4000
    have h1 : 2 ^ N.1.toNat ≤ 2 ^ 10 := Nat.pow_le_pow_right (by decide) (by omega)
    omega
  · rintro a _ H2 σ' x2 ⟨y, rfl, r⟩
    exact t_B (v_call2 (v_var rfl ((dNet C).up (x1.trans x2) ra)) (v_var rfl r) trivial fun _ z => z)
  · rintro a _ H2 H3 σ' x2 ⟨y, rfl, r⟩ x3 _
    exact v_var rfl ((dT dI).up x3 r)

abbrev sp_do_cross  : Sp := sp3 dI (dT dI) (dT dI) dB (fun m p q => 0 ≤ m ∧ Asc p ∧ Asc q ∧ p.length ≤ 100 ∧ q.length ≤ 100) fun m p q y => y = crossB m.toNat p q
abbrev H_do_cross (P : Program) (w : World) (K : PySem.W.Frag) (mg : Str → Option Value) (base : Heap)  : Prop := FnAt P w K mg base "do_cross" 1 ["many", "one", "other"] sp_do_cross
theorem ok_do_cross {P : Program} {w : World} {K : PySem.W.Frag} {mg : Str → Option Value} {base : Heap}  (D : DefAt K mg "do_cross" s_do_cross) (B : Bts mg)  : H_do_cross P w K mg base := by
  refine fnAt D sc_do_cross (fun _ _ _ _ _ _ us hl => match us, hl with | [_, _, _], _ => rfl) sp3_len fun fad cdv A outer s H vs Q E hr h => ⟨_, PSs.nox (pss_cons (ps_setLc (i := 3) (own := [("place", 4)]) rfl sc_do_cross.nd rfl rfl (sw_true rfl rfl rfl (by decide +kernel)) (kWalk K (pv 1))
      (blkOk_by (own := [("place", 4)]) (N := N_do_cross) (sc := defScope s_do_cross) (by decide +kernel))
      (fun _ _ _ _ _ => (pg_name (i := 4) sc_do_cross.nd rfl (by first | exact Or.inl rfl | exact Or.inr rfl))) (fun _ _ _ _ _ => (pts_one (pt_cmpR (kIn K) (pv 4) (pv 2) (by rfl)))) (fun _ _ _ _ _ => (pv 4)))
    (pss_cons (ps_if (PW.pt (pw_or (pt_cmpR (kEq K hr.units) (pv 3) (pe_lst pa_nil) (nomark _)) (pw_or1 (pt_cmpR (kEq K hr.units) (pe_callB (kLenSet w) (by rfl) B.len (by decide +kernel) (pa_cons (pe_callTy (kSet K w) (by rfl) B.set (by decide +kernel) (pa_cons (pe_op (kPlus K) (pv 1) (pv 2)) pa_nil)) pa_nil)) (pv 0) (nomark _))))) (pss_one (ps_ret pe_bl)) pss_nil)
    (pss_one (ps_ret (pe_and (pe_cmpR op_lt (pe_callB (kLen K) (by rfl) B.len PySem.boot_len (pa_cons (pv 3) pa_nil)) (pe_callB (kLen K) (by rfl) B.len PySem.boot_len (pa_cons (pv 1) pa_nil)) (nomark _)) (pe_one (pe_cmpR op_lt (pe_callB (kLen K) (by rfl) B.len PySem.boot_len (pa_cons (pv 3) pa_nil)) (pe_callB (kLen K) (by rfl) B.len PySem.boot_len (pa_cons (pv 2) pa_nil)) (nomark _)))))))), ?_⟩
  obtain ⟨v1, v2, v3, m, p, q', rfl, ra, rb, rc, ⟨hm, hp, hq, lp, lq⟩, q⟩ := h
  have hlen : ∀ z : Int, (∃ ks : List Int, ks.Nodup ∧ (∀ k, k ∈ ks ↔ k ∈ p ++ q') ∧ z = (ks.length : Int)) → z = (ucount p q' : Int) := by
    rintro z ⟨ks, h1, h2, rfl⟩
    rw [ucount_len hp hq h1 fun x => (h2 x).trans List.mem_append]
  refine k_setV (v_lc (fun t => decide (t ∈ q')) id im_I (s_anyT (v_var rfl rb)) (dT_len rb) b_name (fun _ _ _ ⟨_, e, _⟩ => by subst e; rfl) ?_ ?_) fun w H1 x1 r1 => ?_
  · rintro a _ H1 σ' x ⟨y, rfl, r⟩
    exact t_test (v_inT (v_var rfl r) (v_var rfl ((dT dI).up x rc)))
  · rintro a _ H1 H2 σ' x ⟨y, rfl, r⟩ x2 _
    exact v_var rfl (dI.up x2 r)
  · rw [List.map_id] at r1
    refine k_if (b := decide (common p q' = []) || decide ((ucount p q' : Int) = m)) (et_or (t_test (v_eq (encL encI) (v_var rfl r1) v_lst0)) fun _ => t_test (v_eq encI ((p_lenSet (.inr (v_addT (v_var rfl ((dT dI).up x1 rb)) (v_var rfl ((dT dI).up x1 rc)) (by show _ ≤ 4000; omega))) (by rw [List.length_append]; omega)).v hlen) (v_var rfl (dI.up x1 ra)))) (fun hb H2 x2 => ?_) fun hb H2 x2 => ?_
    · refine k_retV v_bl fun w2 H3 x3 r3 => q w2 H3 _ ((x1.trans x2).trans x3) r3 ?_
      show false = crossB m.toNat p q'
      have e : decide (ucount p q' = m.toNat) = decide ((ucount p q' : Int) = m) := decide_eq_decide.mpr (by omega)
      unfold crossB
      rw [e, hb]
      rfl
    · refine k_retV (v_and (v_IB (v_lenL (v_var rfl ((dL dI).up x2 r1))) (v_lenT (v_var rfl ((dT dI).up (x1.trans x2) rb)))) fun _ => v_IB (v_lenL (v_var rfl ((dL dI).up x2 r1))) (v_lenT (v_var rfl ((dT dI).up (x1.trans x2) rc)))) fun w2 H3 x3 r3 => q w2 H3 _ ((x1.trans x2).trans x3) r3 ?_
      have e : decide (ucount p q' = m.toNat) = decide ((ucount p q' : Int) = m) := decide_eq_decide.mpr (by omega)
      show _ = crossB m.toNat p q'
      unfold crossB
      rw [e, hb]
      have e2 : ∀ a b : Nat, decide ((a : Int) < (b : Int)) = decide (a < b) := fun a b => decide_eq_decide.mpr Int.ofNat_lt
      rw [e2, e2]
      rfl

abbrev sp_need_family (C : Addr) : Sp := sp2 (dNet C) (dT (dT dI)) dN (fun N F => F.length ≤ 16 ∧ ∀ p, p ∈ F → cutB N p = true) fun _ _ _ => True
abbrev H_need_family (P : Program) (w : World) (K : PySem.W.Frag) (mg : Str → Option Value) (base : Heap) (C : Addr) : Prop := FnAt P w K mg base "need_family" 5 ["net", "family"] (sp_need_family C)
theorem ok_need_family {P : Program} {w : World} {K : PySem.W.Frag} {mg : Str → Option Value} {base : Heap} {C : Addr} (D : DefAt K mg "need_family" s_need_family) (B : Bts mg) (h_need_net : H_need_net P w K mg base C) (h_is_a_cut : H_is_a_cut P w K mg base C) (GL : Gls mg) (NK : NetK P w K mg base C)  : H_need_family P w K mg base C := by
  refine fnAt D sc_need_family (fun _ _ _ _ _ _ us hl => match us, hl with | [_, _], _ => rfl) sp2_len fun fad cdv A outer s H vs Q E hr h => ⟨_, PSs.nox (pss_cons (ps_expr (pcall h_need_net hr (by decide) rfl (pa_cons (pv 0) pa_nil)))
    (pss_cons (ps_if (PW.pt (pw_or (pt_not (pt_val (pe_callB (kIsi K) (by rfl) B.isinstance (by decide +kernel) (pa_cons (pv 1) (pa_cons (pe_bltn (v := .ty "tuple") (by rfl) B.tuple (by decide +kernel) rfl) pa_nil))))) (pw_or1 (pt_cmpR op_gt (pe_callB (kLen K) (by rfl) B.len PySem.boot_len (pa_cons (pv 1) pa_nil)) (pe_gint rfl GL.MOST_CUTS) (nomark _))))) (pss_one ps_never) pss_nil)
    (pss_one (ps_if (pt_not (pt_val (pe_callB (kAll K) (by rfl) B.all (by decide +kernel) (pa_cons (pe_lc (own := [("places", 2)]) rfl sc_need_family.nd (kWalk K (pv 1))
      (blkOk_by (own := [("places", 2)]) (N := N_need_family) (sc := defScope s_need_family) (by decide +kernel))
      (fun _ _ _ _ _ => (pg_name (i := 2) sc_need_family.nd rfl (by first | exact Or.inl rfl | exact Or.inr rfl))) (fun _ _ _ _ _ => pts_nil) (fun _ _ _ _ _ => (pcall h_is_a_cut hr (by decide) rfl (pa_cons (pv 0) (pa_cons (pv 2) pa_nil))))) pa_nil)))) (pss_one ps_never) pss_nil)))), ?_⟩
  obtain ⟨v, v2, N, F, rfl, ra, rb, ⟨hl, hc⟩, q⟩ := h
  refine ⟨v, rfl, ⟨v, N, rfl, ra, trivial, fun w H1 _ x1 _ _ => ?_⟩⟩
  have rb1 := (dT (dT dI)).up x1 rb
  refine k_no (EvT.is (et_or (a := false) (b := false) (et_not (a := true) (t_B (v_isi (v_var rfl rb1) (.ty _) (fun H2 v _ r => ty_tup r) (by rfl)))) fun _ => t_test (EvV.is (v_IB (v_lenT (v_var rfl rb1)) v_int) (decide_eq_false (by omega)))) (by rfl)) fun H2 x2 => ?_
  refine k_when (b := false) (et_not (a := true) (t_B (EvV.is (v_all (v_lcN (cutB N) im_B (s_anyT (v_var rfl ((dT (dT dI)).up x2 rb1))) (dT_len rb) b_name (fun _ _ _ ⟨_, e, _⟩ => by subst e; rfl) ?_)) ?_))) (fun hb => (nomatch hb)) fun _ H3 x3 => q .non H3 () ((x1.trans x2).trans x3) rfl trivial
  · rintro a _ H3 H4 σ' x3 ⟨y, rfl, r⟩ x4
    exact v_call2 (v_var rfl ((dNet C).up (((x1.trans x2).trans x3).trans x4) ra)) (v_var rfl ((dT dI).up x4 r)) trivial fun _ z => z
  · rw [List.all_map]
    exact List.all_eq_true.mpr hc

def usesL (rs : List Road) (F : List Pl) : List Int := (upFrom 0 rs.length).map fun e => (((F.flatMap (into rs)).count e : Nat) : Int)
abbrev sp_uses_of (C : Addr) : Sp := sp2 (dNet C) (dT (dT dI)) (dT dI) (fun N F => (F.flatMap (into N.2)).length ≤ 4000 ∧ N.2.length ≤ 1000) fun N F y => y = usesL N.2 F
abbrev H_uses_of (P : Program) (w : World) (K : PySem.W.Frag) (mg : Str → Option Value) (base : Heap) (C : Addr) : Prop := FnAt P w K mg base "uses_of" 4 ["net", "family"] (sp_uses_of C)
theorem ok_uses_of {P : Program} {w : World} {K : PySem.W.Frag} {mg : Str → Option Value} {base : Heap} {C : Addr} (D : DefAt K mg "uses_of" s_uses_of) (B : Bts mg) (h_roads_into : H_roads_into P w K mg base C) (NK : NetK P w K mg base C)  : H_uses_of P w K mg base C := by
  refine fnAt D sc_uses_of (fun _ _ _ _ _ _ us hl => match us, hl with | [_, _], _ => rfl) sp2_len fun fad cdv A outer s H vs Q E hr h => ⟨_, PSs.nox (pss_cons (ps_set (i := 2) sc_uses_of.nd rfl (by first | exact Or.inl rfl | exact Or.inr rfl) (pe_lc2 (own := [("places", 3), ("number", 4)]) (vs1 := [4]) rfl sc_uses_of.nd (kWalk K (pv 1))
      (blkOk_by (own := [("places", 3), ("number", 4)]) (N := N_uses_of) (sc := defScope s_uses_of) (by decide +kernel))
      (by decide) (fun _ _ _ _ _ => (pg_name (i := 3) sc_uses_of.nd rfl (by first | exact Or.inl rfl | exact Or.inr rfl))) (fun _ _ _ _ _ => pts_nil) (fun _ _ _ _ _ => (kWalk K (pcall h_roads_into hr (by decide) rfl (pa_cons (pv 0) (pa_cons (pv 3) pa_nil))))) (fun _ _ _ _ _ => (pg_name (i := 4) sc_uses_of.nd rfl (by first | exact Or.inl rfl | exact Or.inr rfl))) (fun _ _ _ _ _ => pts_nil) (fun _ _ _ _ _ => (pv 4))))
    (pss_one (ps_ret (pe_callTy (kTuple K) (by rfl) B.tuple (by decide +kernel) (pa_cons (pe_lc (own := [("number", 4)]) rfl sc_uses_of.nd (pi_range1 (by rfl) B.range (pa_cons (pe_callB (kLenN NK.len hr (by decide)) (by rfl) B.len PySem.boot_len (pa_cons (pv 0) pa_nil)) pa_nil))
      (blkOk_by (own := [("number", 4)]) (N := N_uses_of) (sc := defScope s_uses_of) (by decide +kernel))
      (fun _ _ _ _ _ => (pg_name (i := 4) sc_uses_of.nd rfl (by first | exact Or.inl rfl | exact Or.inr rfl))) (fun _ _ _ _ _ => pts_nil) (fun _ _ _ _ _ => (pcnt K (pv 2) (pv 4)))) pa_nil))))), ?_⟩
  obtain ⟨v, v2, N, F, rfl, ra, rb, ⟨hl, hn⟩, q⟩ := h
  refine k_setV (v_lc2 (e := dT dI) (into N.2) im_I (s_anyT (v_var rfl rb)) hl (fun _ => by rfl) (fun _ _ => by rfl) ?_ ?_) fun w H1 x1 r1 => ?_
  · intro a _ x H1 x1 r
    exact s_anyTT im_I (v_call2 (v_var rfl ((dNet C).up x1 ra)) (v_var rfl r) trivial fun _ z => z)
  · intro x y b H1 r
    exact v_var rfl r
  · refine k_retV (v_tuple (v_lcN (fun e => (((F.flatMap (into N.2)).count e : Nat) : Int)) im_I (s_range1 (v_lenN (v_var rfl ((dNet C).up x1 ra))) (by omega) (by omega)) (by rw [upFrom_len]; show _ ≤ 4000; omega) b_name (fun _ _ _ ⟨_, e, _⟩ => by subst e; rfl) ?_)) fun w2 H2 x2 r2 => q w2 H2 _ (x1.trans x2) r2 ?_
    · rintro a _ H3 H4 σ' x3 ⟨y, rfl, r⟩ x4
      exact v_cnt (v_var rfl ((dL dI).up (x3.trans x4) r1)) (v_var rfl (dI.up x4 r))
    · show _ = usesL N.2 F
      unfold usesL
      rw [Int.toNat_natCast]

abbrev sp_uses (C : Addr) : Sp := sp2 (dNet C) (dT (dT dI)) (dT dI) (fun N F => (F.flatMap (into N.2)).length ≤ 4000 ∧ N.2.length ≤ 1000 ∧ F.length ≤ 16 ∧ ∀ p, p ∈ F → cutB N p = true) fun N F y => y = usesL N.2 F
abbrev H_uses (P : Program) (w : World) (K : PySem.W.Frag) (mg : Str → Option Value) (base : Heap) (C : Addr) : Prop := FnAt P w K mg base "uses" 6 ["net", "family"] (sp_uses C)
theorem ok_uses {P : Program} {w : World} {K : PySem.W.Frag} {mg : Str → Option Value} {base : Heap} {C : Addr} (D : DefAt K mg "uses" s_uses) (B : Bts mg) (h_need_family : H_need_family P w K mg base C) (h_uses_of : H_uses_of P w K mg base C) (NK : NetK P w K mg base C)  : H_uses P w K mg base C := by
  refine fnAt D sc_uses (fun _ _ _ _ _ _ us hl => match us, hl with | [_, _], _ => rfl) sp2_len fun fad cdv A outer s H vs Q E hr h => ⟨_, PSs.nox (pss_cons (ps_expr (pcall h_need_family hr (by decide) rfl (pa_cons (pv 0) (pa_cons (pv 1) pa_nil))))
    (pss_one (ps_ret (pcall h_uses_of hr (by decide) rfl (pa_cons (pv 0) (pa_cons (pv 1) pa_nil)))))), ?_⟩
  obtain ⟨v, v2, N, F, rfl, ra, rb, ⟨h1, h2, h3, h4⟩, q⟩ := h
  refine ⟨v, rfl, v2, rfl, ⟨v, v2, N, F, rfl, ra, rb, ⟨h3, h4⟩, fun w H1 _ x1 _ _ => ?_⟩⟩
  exact k_ret (p_call2V (v_var rfl ((dNet C).up x1 ra)) (v_var rfl ((dT (dT dI)).up x1 rb)) ⟨h1, h2⟩) fun w2 H2 y x2 r2 hy => q w2 H2 y (x1.trans x2) r2 hy
end Ow
-- OwF5
/-! Crossing cuts. -/
namespace Ow
open PySem PySem.Spec PyProof.Rows L2 Evl

def FcPost (n : Nat) (F : List Pl) (o : Option (Int × Int)) : Prop := match o with
  | none => Calm n F
  | some ij => ∃ (i j : Nat) (p q : Pl), ij = ((i : Int), (j : Int)) ∧ i < j ∧ F[i]? = some p ∧ F[j]? = some q ∧ crossB n p q = true
abbrev sp_first_crossing  : Sp := sp2 dI (dU (dT dI)) (dO (dP dI dI)) (fun m F => 0 ≤ m ∧ F.length ≤ 100 ∧ ∀ p, p ∈ F → Asc p ∧ p.length ≤ 100) fun m F o => FcPost m.toNat F o
abbrev H_first_crossing (P : Program) (w : World) (K : PySem.W.Frag) (mg : Str → Option Value) (base : Heap)  : Prop := FnAt P w K mg base "first_crossing" 2 ["many", "family"] sp_first_crossing
theorem ok_first_crossing {P : Program} {w : World} {K : PySem.W.Frag} {mg : Str → Option Value} {base : Heap}  (D : DefAt K mg "first_crossing" s_first_crossing) (B : Bts mg) (h_do_cross : H_do_cross P w K mg base)  : H_first_crossing P w K mg base := by
  refine fnAt D sc_first_crossing (fun _ _ _ _ _ _ us hl => match us, hl with | [_, _], _ => rfl) sp2_len fun fad cdv A outer s H vs Q E hr h => ⟨_, PSs.nox (pss_cons (ps_for PassesOwn.never rfl (pi_range1 (by rfl) B.range (pa_cons (pe_callB (kLen K) (by rfl) B.len PySem.boot_len (pa_cons (pv 1) pa_nil)) pa_nil)) (pg_name (i := 2) sc_first_crossing.nd rfl (by first | exact Or.inl rfl | exact Or.inr rfl))
    (pss_one (ps_for PassesOwn.never rfl (pi_range2 (by rfl) B.range (pa_cons (pe_op (kPlus K) (pv 2) pe_int) (pa_cons (pe_callB (kLen K) (by rfl) B.len PySem.boot_len (pa_cons (pv 1) pa_nil)) pa_nil))) (pg_name (i := 3) sc_first_crossing.nd rfl (by first | exact Or.inl rfl | exact Or.inr rfl))
    (pss_one (ps_if (pt_val (pcall h_do_cross hr (by decide) rfl (pa_cons (pv 0) (pa_cons (pe_ix (kIx K) (pv 1) (pv 2) (fun _ _ => rfl)) (pa_cons (pe_ix (kIx K) (pv 1) (pv 3) (fun _ _ => rfl)) pa_nil))))) (pss_one (ps_ret (pe_tup (pa_cons (pv 2) (pa_cons (pv 3) pa_nil))))) pss_nil)))))
    (pss_one (ps_ret pe_non))), ?_⟩
  obtain ⟨v1, v2, m, F, rfl, ra, rb, ⟨hm, hl, hF⟩, q⟩ := h
  have hln : (F.length : Int).toNat = F.length := Int.toNat_natCast _
  refine kq_forR1 (n := (F.length : Int)) (v_lenU (v_var rfl rb)) (by omega) (by omega) (fun i σ' H' => Ex H H' ∧ (∃ o1 o2, σ' = [some v1, some v2, o1, o2]) ∧ ∀ a b p r, a < i → a < b → F[a]? = some p → F[b]? = some r → crossB m.toNat p r = false) (fun H1 x1 => ⟨x1, ⟨none, none, rfl⟩, fun a b p r h => absurd h (Nat.not_lt_zero a)⟩) (fun i σ' H1 hi hp => ?_) fun σ' H1 hp => ?_
  · rw [hln] at hi
    obtain ⟨x1, ⟨o1, o2, rfl⟩, hno⟩ := hp
    refine k_forR2 (a := (i : Int) + 1) (b := (F.length : Int)) (v_addI (v_var rfl rfl) v_int) (v_lenU (v_var rfl ((dU (dT dI)).up x1 rb))) (by omega) (by omega) (by omega) (by omega) (fun j σ' H' => Ex H H' ∧ (∃ o2, σ' = [some v1, some v2, some (.int (i : Int)), o2]) ∧ ∀ b p r, i < b → b < i + 1 + j → F[i]? = some p → F[b]? = some r → crossB m.toNat p r = false) (fun H2 x2 => ⟨x1.trans x2, ⟨o2, rfl⟩, fun b p r h1 h2 => by omega⟩) (fun j σ' H2 hj hp => ?_) fun σ' H2 hp => ?_
    · obtain ⟨x2, ⟨o3, rfl⟩, hno2⟩ := hp
      have hjl : i + 1 + j < F.length := by omega
      have ha : F[i]? = some F[i] := List.getElem?_eq_getElem hi
      have hb : F[i + 1 + j]? = some F[i + 1 + j] := List.getElem?_eq_getElem hjl
      have e1 : (i : Int) + 1 + (j : Int) = ((i + 1 + j : Nat) : Int) := by omega
      have hA := hF _ (List.getElem_mem hi)
      have hB := hF _ (List.getElem_mem hjl)
      rw [e1]
      refine k_when (b := crossB m.toNat F[i] F[i + 1 + j]) (t_B (v_call3 (v_var rfl (dI.up x2 ra)) (v_ixU (v_var rfl ((dU (dT dI)).up x2 rb)) (v_var rfl rfl) (by omega) (by simpa using ha)) (v_ixU (v_var rfl ((dU (dT dI)).up x2 rb)) (v_var rfl rfl) (by omega) (by rw [Int.toNat_natCast]; exact hb)) ⟨hm, hA.1, hB.1, hA.2, hB.2⟩ fun _ z => z)) (fun hc H3 x3 => ?_) fun hc H3 x3 => ?_
      · refine k_retV (f := dP dI dI) (y := ((i : Int), ((i + 1 + j : Nat) : Int))) (v_pair (v_var rfl rfl) (v_var rfl rfl)) fun w H4 x4 r4 => q w H4 (some _) ((x2.trans x3).trans x4) ⟨?_, r4⟩ ⟨i, i + 1 + j, _, _, rfl, by omega, ha, hb, hc⟩
        obtain ⟨_, _, _, e, _⟩ := r4
        rw [e]
        exact fun z => nomatch z
      · refine ⟨x2.trans x3, ⟨_, rfl⟩, fun b p r h1 h2 hp hr => ?_⟩
        by_cases hbj : b = i + 1 + j
        · subst hbj
          rw [ha] at hp
          rw [hb] at hr
          cases hp
          cases hr
          exact hc
        · exact hno2 b p r h1 (by omega) hp hr
    · obtain ⟨x2, ⟨o3, rfl⟩, hno2⟩ := hp
      refine ⟨x2, ⟨_, _, rfl⟩, fun a b p r h1 h2 hp hr => ?_⟩
      by_cases hai : a = i
      · subst hai
        have hbl := (List.getElem?_eq_some_iff.mp hr).1
        exact hno2 b p r h2 (by omega) hp hr
      · exact hno a b p r (by omega) h2 hp hr
  · obtain ⟨x1, _, hno⟩ := hp
    rw [hln] at hno
    refine k_retV (f := dN) (y := ()) v_non fun w H2 x2 r2 => q w H2 none (x1.trans x2) r2 ?_
    refine List.pairwise_iff_getElem.mpr fun a b ha hb hab => ?_
    exact hno a b _ _ ha hab (List.getElem?_eq_getElem ha) (List.getElem?_eq_getElem hb)
end Ow
-- OwF6
/-! uncrossed. -/
namespace Ow
open PySem PySem.Spec PyProof.Rows L2 Evl

theorem ascB_iff : ∀ l : List Int, ascB l = true ↔ Asc l
  | [] => ⟨fun _ => List.Pairwise.nil, fun _ => rfl⟩
  | [a] => ⟨fun _ => List.pairwise_singleton _ _, fun _ => rfl⟩
  | a :: b :: l => by
    have e : ascB (a :: b :: l) = (decide (a < b) && ascB (b :: l)) := rfl
    rw [e, Bool.and_eq_true, decide_eq_true_eq, ascB_iff (b :: l)]
    constructor
    · rintro ⟨h1, h2⟩
      refine List.pairwise_cons.mpr ⟨fun x hx => ?_, h2⟩
      rcases List.mem_cons.mp hx with rfl | hx
      · exact h1
      · have := (List.pairwise_cons.mp h2).1 x hx
        omega
    · intro h
      obtain ⟨h1, h2⟩ := List.pairwise_cons.mp h
      exact ⟨h1 b (List.mem_cons_self ..), h2⟩
theorem isSet_iff (n : Nat) (l : List Int) : isSet l (n : Int) = true ↔ Asc l ∧ ∀ x, x ∈ l → 0 ≤ x ∧ x < (n : Int) := by
  unfold isSet
  rw [Bool.and_eq_true, ascB_iff, List.all_eq_true]
  constructor
  · rintro ⟨h1, h2⟩
    refine ⟨h2, fun x hx => ?_⟩
    have := h1 x hx
    unfold inRg at this
    rw [Bool.and_eq_true, decide_eq_true_eq, decide_eq_true_eq] at this
    omega
  · rintro ⟨h1, h2⟩
    refine ⟨fun x hx => ?_, h1⟩
    have := h2 x hx
    unfold inRg
    rw [Bool.and_eq_true, decide_eq_true_eq, decide_eq_true_eq]
    omega
theorem cutB_iff (n : Nat) (rs : List Road) (p : Pl) : cutB ((n : Int), rs) p = true ↔ IsCut n rs p := by
  have hc : closedB rs p = true ↔ ∀ r, r ∈ rs → r.1 ∈ p → r.2 ∈ p := by
    unfold closedB
    rw [Bool.not_eq_true', ← Bool.not_eq_true, List.any_eq_true]
    constructor
    · intro h r hr h1
      exact Classical.byContradiction fun h2 => h ⟨r, hr, by rw [decide_eq_true h1, decide_eq_true h2]; rfl⟩
    · rintro h ⟨r, hr, e⟩
      rw [Bool.and_eq_true, decide_eq_true_eq, decide_eq_true_eq] at e
      exact e.2 (h r hr e.1)
  unfold cutB
  rw [Bool.and_eq_true, Bool.and_eq_true, Bool.and_eq_true, isSet_iff, hc, decide_eq_true_eq, decide_eq_true_eq]
  constructor
  · rintro ⟨⟨h1, h2⟩, ⟨h3, h4⟩, h5⟩
    exact ⟨h1, h2, by omega, by have : (p.length : Int) < (n : Int) := h4; omega, h5⟩
  · intro h
    exact ⟨⟨h.asc, h.rng⟩, ⟨by have := h.ne; omega, by have := h.lt; show (p.length : Int) < (n : Int); omega⟩, h.cl⟩

section
variable {α β γ : Type} {K : PySem.W.Frag} {σ : L2.St} {H H' : Hp} {te ta tb tc : TE} {t u : TT} {e : Rl α} {f : Rl β} {wi : TI} {D : Ends} {tz : TS} {l : List α}
theorem kq_setIP {i : Nat} {p : Addr} {xs : List V} {P : β → Prop} {j : Nat} (hv : σ[i]? = some (some (.ref p))) (hp : H p = some (.lst xs)) (h : EvP f te σ H P) (hj : EvV dI ta σ H (j : Int)) (lt : j < xs.length) (k : ∀ w H1 b, Ex H H1 → f.r H1 w b → P b → tz D σ (upd H1 p (.lst (xs.set j w)))) :
    tSeq (tAsg te (gSub (tVar i) ta rSetL)) tz D σ H := h H (Ex.refl H) _ fun w H1 b x r pb => ⟨_, hv, hj H1 x _ fun v H2 x2 r2 =>
  ⟨p, xs, (j : Int), j, rfl, r2, x2 _ _ (x p _ hp), ixN_nat lt, k w H2 b (x.trans x2) (f.up x2 r) pb⟩⟩
theorem k_setP1 {i : Nat} {P : β → Prop} (h : EvP f te σ H P) (k : ∀ w H1 y, Ex H H1 → f.r H1 w y → P y → D.nx (σ.set i (some w)) H1) : tAsg te (gName i) D σ H := h H (Ex.refl H) _ k
end

def UncPost (N : NetD) (F y : List Pl) : Prop := (∀ p, p ∈ y → IsCut N.1.toNat N.2 p) ∧ y.length = F.length ∧ (∀ e, useF N.2 y e = useF N.2 F e) ∧ Calm N.1.toNat y
abbrev sp_uncrossed (C : Addr) : Sp := sp2 (dNet C) (dT (dT dI)) (dT (dT dI)) (fun N F => 0 ≤ N.1 ∧ N.1 ≤ 30 ∧ F.length ≤ 16 ∧ ∀ p, p ∈ F → IsCut N.1.toNat N.2 p) fun N F y => UncPost N F y
abbrev H_uncrossed (P : Program) (w : World) (K : PySem.W.Frag) (mg : Str → Option Value) (base : Heap) (C : Addr) : Prop := FnAt P w K mg base "uncrossed" 6 ["net", "family"] (sp_uncrossed C)
theorem ok_uncrossed {P : Program} {w : World} {K : PySem.W.Frag} {mg : Str → Option Value} {base : Heap} {C : Addr} (D : DefAt K mg "uncrossed" s_uncrossed) (B : Bts mg) (h_need_family : H_need_family P w K mg base C) (h_first_crossing : H_first_crossing P w K mg base) (h_in_order : H_in_order P w K mg base) (NK : NetK P w K mg base C)  : H_uncrossed P w K mg base C := by
  obtain ⟨f_o, fd_o, M_o, kp_o, b_o, F_o⟩ := h_in_order.ex
  refine fnAt D sc_uncrossed (fun _ _ _ _ _ _ us hl => match us, hl with | [_, _], _ => rfl) sp2_len fun fad cdv A outer s H vs Q E hr h => ⟨_, PSs.nox (pss_cons (ps_expr (pcall h_need_family hr (by decide) rfl (pa_cons (pv 0) (pa_cons (pv 1) pa_nil))))
    (pss_cons (ps_set (i := 2) sc_uncrossed.nd rfl (by first | exact Or.inl rfl | exact Or.inr rfl) (pe_callBK (cr_sortK F_o b_o (hr.mono (by decide))) (by rfl) B.sorted (by decide +kernel) (pa_cons (pv 1) pa_nil) (pk_cons (te := tC (.ref f_o)) (by exact pe_glob (v := .ref f_o) rfl M_o rfl) pk_nil)))
    (pss_cons (ps_set (i := 3) sc_uncrossed.nd rfl (by first | exact Or.inl rfl | exact Or.inr rfl) (pcall h_first_crossing hr (by decide) rfl (pa_cons (pprop NK.cls NK.many hr (by decide) (pv 0)) (pa_cons (pv 2) pa_nil))))
    (pss_cons (ps_while PassesOwn.never (pt_cmpR op_notN (pv 3) pe_non (nomark _)) (pss_cons (ps_asg (pv 3) (kTup K (n := 2) (pgs_cons (pg_name (i := 4) sc_uncrossed.nd rfl (by first | exact Or.inl rfl | exact Or.inr rfl)) (pgs_cons (pg_name (i := 5) sc_uncrossed.nd rfl (by first | exact Or.inl rfl | exact Or.inr rfl)) pgs_nil))))
    (pss_cons (ps_asg (pe_tup (pa_cons (pe_ix (kIx K) (pv 2) (pv 4) (fun _ _ => rfl)) (pa_cons (pe_ix (kIx K) (pv 2) (pv 5) (fun _ _ => rfl)) pa_nil))) (kTup K (n := 2) (pgs_cons (pg_name (i := 6) sc_uncrossed.nd rfl (by first | exact Or.inl rfl | exact Or.inr rfl)) (pgs_cons (pg_name (i := 7) sc_uncrossed.nd rfl (by first | exact Or.inl rfl | exact Or.inr rfl)) pgs_nil))))
    (pss_cons (ps_asg (pe_callTy (kTuple K) (by rfl) B.tuple (by decide +kernel) (pa_cons (pe_lc (own := [("place", 8)]) rfl sc_uncrossed.nd (kWalk K (pv 6))
      (blkOk_by (own := [("place", 8)]) (N := N_uncrossed) (sc := defScope s_uncrossed) (by decide +kernel))
      (fun _ _ _ _ _ => (pg_name (i := 8) sc_uncrossed.nd rfl (by first | exact Or.inl rfl | exact Or.inr rfl))) (fun _ _ _ _ _ => (pts_one (pt_cmpR (kIn K) (pv 8) (pv 7) (by rfl)))) (fun _ _ _ _ _ => (pv 8))) pa_nil)) (pg_sub (pv 2) (pv 4) set_list))
    (pss_cons (ps_asg (pe_callTy (kTuple K) (by rfl) B.tuple (by decide +kernel) (pa_cons (pe_callB (kSortSet w) (by rfl) B.sorted (by decide +kernel) (pa_cons (pe_callTy (kSet K w) (by rfl) B.set (by decide +kernel) (pa_cons (pe_op (kPlus K) (pv 6) (pv 7)) pa_nil)) pa_nil)) pa_nil)) (pg_sub (pv 2) (pv 5) set_list))
    (pss_cons (ps_set (i := 2) sc_uncrossed.nd rfl (by first | exact Or.inl rfl | exact Or.inr rfl) (pe_callBK (cr_sortK F_o b_o (hr.mono (by decide))) (by rfl) B.sorted (by decide +kernel) (pa_cons (pv 2) pa_nil) (pk_cons (te := tC (.ref f_o)) (by exact pe_glob (v := .ref f_o) rfl M_o rfl) pk_nil)))
    (pss_one (ps_set (i := 3) sc_uncrossed.nd rfl (by first | exact Or.inl rfl | exact Or.inr rfl) (pcall h_first_crossing hr (by decide) rfl (pa_cons (pprop NK.cls NK.many hr (by decide) (pv 0)) (pa_cons (pv 2) pa_nil)))))))))))
    (pss_one (ps_ret (pe_callTy (kTuple K) (by rfl) B.tuple (by decide +kernel) (pa_cons (pv 2) pa_nil)))))))), ?_⟩
  obtain ⟨v1, v2, N, F, rfl, ra, rb, ⟨hn0, hn1, hl, hF⟩, q⟩ := h
  obtain ⟨n, hn⟩ : ∃ n : Nat, N.1 = (n : Int) := ⟨N.1.toNat, by omega⟩
  have eN : N = ((n : Int), N.2) := by rw [← hn]
  have en : N.1.toNat = n := by omega
  have hcl : ∀ p, IsCut N.1.toNat N.2 p → Asc p ∧ p.length ≤ 100 := fun p h => ⟨h.asc, by have := h.lt; omega⟩
  refine ⟨v1, rfl, v2, rfl, ⟨v1, v2, N, F, rfl, ra, rb, ⟨hl, fun p hp => by rw [eN, cutB_iff, ← en]; exact hF p hp⟩, fun w H1 _ x1 _ _ => ?_⟩⟩
  refine k_setN (n_sortKU (ha := v_var rfl (.inr ((dT (dT dI)).up x1 rb)))) fun p H2 xs F1 hp x2 hxs hr hl1 hperm => ?_
  have hp0 : H p = none := fresh_back x1 hp
  have I0 : (∀ c, c ∈ F1 → IsCut N.1.toNat N.2 c) ∧ F1.length = F.length ∧ ∀ e, useF N.2 F1 e = useF N.2 F e := ⟨fun c hc => hF c (hperm.mem_iff.mp hc), hperm.length_eq, fun e => hperm.countP_eq _⟩
  refine k_set (p_call2V (v_many (v_var rfl ((dNet C).up (x1.trans x2) ra))) (v_var rfl (.inl ⟨p, xs, rfl, hxs, hr, hl1⟩)) ⟨hn0, by rw [I0.2.1]; omega, fun c hc => hcl c (I0.1 c hc)⟩) fun v3 H3 o x3 ro ho => ?_
  refine q_while (fun m σ' H' => ∃ (p : Addr) (xs : List V) (F' : List Pl) (o : Option (Int × Int)) (v3 : V) (o4 o5 o6 o7 : Option V), σ' = [some v1, some v2, some (.ref p), some v3, o4, o5, o6, o7, none] ∧ Ex H H' ∧ H p = none ∧ H' p = some (.lst xs) ∧ AllR (dT dI) H' xs F' ∧ F'.length ≤ 16 ∧ (dO (dP dI dI)).r H' v3 o ∧ FcPost N.1.toNat F' o ∧
      ((∀ c, c ∈ F' → IsCut N.1.toNat N.2 c) ∧ F'.length = F.length ∧ ∀ e, useF N.2 F' e = useF N.2 F e) ∧ m = left N.1.toNat F') (left N.1.toNat F1)
    ⟨p, xs, F1, o, v3, none, none, none, none, rfl, (x1.trans x2).trans x3, hp0, x3 _ _ hxs, AllR.up x3 hr, by rw [I0.2.1]; exact hl, ro, ho, I0, rfl⟩ ?_
  rintro m σ' H' ⟨p, xs, F', o, v3, o4, o5, o6, o7, rfl, y1, hp0, hxs, hr, hl2, ro, ho, ⟨hc, hlen, hu⟩, rfl⟩
  refine ⟨o.isSome, t_notN rfl ro, fun hb H4 x4 => ?_, fun hb H4 x4 => ?_⟩
  · obtain ⟨ij, rfl⟩ := Option.isSome_iff_exists.mp hb
    obtain ⟨i, j, c1, c2, rfl, hij, hi, hj, hcr⟩ := ho
    have rij := (dP dI dI).up x4 ro.2
    have hxl : xs.length = F'.length := Paired.length hr
    have hil := (List.getElem?_eq_some_iff.mp hi).1
    have hjl := (List.getElem?_eq_some_iff.mp hj).1
    have hc1 := hc c1 (List.mem_of_getElem? hi)
    have hc2 := hc c2 (List.mem_of_getElem? hj)
    refine ⟨fun σ2 H5 => ∃ (p : Addr) (xs : List V) (F2 : List Pl) (o : Option (Int × Int)) (v3 : V) (o4 o5 o6 o7 : Option V), σ2 = [some v1, some v2, some (.ref p), some v3, o4, o5, o6, o7, none] ∧ Ex H H5 ∧ H p = none ∧ H5 p = some (.lst xs) ∧ AllR (dT dI) H5 xs F2 ∧ F2.length ≤ 16 ∧ (dO (dP dI dI)).r H5 v3 o ∧ FcPost N.1.toNat F2 o ∧
      ((∀ c, c ∈ F2 → IsCut N.1.toNat N.2 c) ∧ F2.length = F.length ∧ ∀ e, useF N.2 F2 e = useF N.2 F e) ∧ left N.1.toNat F2 < left N.1.toNat F', ?_, ?_⟩
    · rintro σ2 H5 ⟨p, xs, F2, o, v3, o4, o5, o6, o7, rfl, a1, a2, a3, a4, a5, a6, a7, a8, a9⟩
      exact ⟨_, a9, p, xs, F2, o, v3, o4, o5, o6, o7, rfl, a1, a2, a3, a4, a5, a6, a7, a8, rfl⟩
    · refine k_pairV (y := ((i : Int), (j : Int))) (v_var rfl rij) fun a b H5 x5 r1 r2 => ?_
      obtain rfl : a = V.int (i : Int) := r1
      obtain rfl : b = V.int (j : Int) := r2
      have hx5 : H5 p = some (.lst xs) := x5 _ _ (x4 _ _ hxs)
      have rL : (dL (dT dI)).r H5 (.ref p) F' := ⟨p, xs, rfl, hx5, AllR.up (x4.trans x5) hr, by show _ ≤ 4000; omega⟩
      refine k_pairV (y := (c1, c2)) (v_pair (v_ixL (v_var rfl rL) (v_var rfl rfl) (by omega) (by simpa using hi)) (v_ixL (v_var rfl rL) (v_var rfl rfl) (by omega) (by simpa using hj))) fun a b H6 x6 r1 r2 => ?_
      refine kq_setI (f := dT dI) (b := common c1 c2) (xs := xs) rfl (x6 _ _ hx5) (v_tuple (EvV.is (v_lc (fun t => decide (t ∈ c2)) id im_I (s_anyT (v_var rfl r1)) (dT_len r1) b_name (fun _ _ _ ⟨_, e, _⟩ => by subst e; rfl) ?_ ?_) (by rw [List.map_id]; rfl))) (v_var rfl rfl) (by omega) fun w H7 x7 r7 => ?_
      · rintro a _ H7 σ' x7 ⟨y, rfl, r⟩
        exact t_test (v_inT (v_var rfl r) (v_var rfl ((dT dI).up x7 r2)))
      · rintro a _ H7 H8 σ' x7 ⟨y, rfl, r⟩ x8 _
        exact v_var rfl (dI.up x8 r)
      · have hx7 : H7 p = some (.lst xs) := x7 _ _ (x6 _ _ hx5)
        have t7 : Tx H7 (upd H7 p (.lst (xs.set i w))) := Tx.upd hx7
        have r17 : (dT dI).r (upd H7 p (.lst (xs.set i w))) a c1 := im_T im_I t7 ((dT dI).up x7 r1)
        have r27 : (dT dI).r (upd H7 p (.lst (xs.set i w))) b c2 := im_T im_I t7 ((dT dI).up x7 r2)
        refine kq_setIP (f := dT dI) (P := IsSet (c1 ++ c2)) (xs := xs.set i w) rfl upd_same (p_tuple (p_sortSet (.inr (v_addT (v_var rfl r17) (v_var rfl r27) (by have := hcl c1 hc1; have := hcl c2 hc2; show _ ≤ 4000; omega))) ?_)) (v_var rfl rfl) (by rw [List.length_set]; omega) fun w2 H8 u x8 r8 hu8 => ?_
        · rw [List.length_append]
          have := hc1.lt
          have := hc2.lt
          omega
        · have hx8 : H8 p = some (.lst (xs.set i w)) := x8 _ _ upd_same
          have t8 : Tx H8 (upd H8 p (.lst ((xs.set i w).set j w2))) := Tx.upd hx8
          have hr8 : AllR (dT dI) (upd H8 p (.lst ((xs.set i w).set j w2))) ((xs.set i w).set j w2) ((F'.set i (common c1 c2)).set j u) :=
            pd_set (pd_set (AllR.im (im_T im_I) ((t7.trans (Tx.of x8)).trans t8) (AllR.up ((x4.trans x5).trans (x6.trans x7)) hr)) (im_T im_I ((t7.trans (Tx.of x8)).trans t8) r7) i) (im_T im_I t8 r8) j
          have hst : Step N.1.toNat N.2 F' ((F'.set i (common c1 c2)).set j u) := uncross_step hc (Nat.ne_of_lt hij) hi hj hcr hu8.1 fun x => (hu8.2 x).trans List.mem_append
          have y8 : Ex H (upd H8 p (.lst ((xs.set i w).set j w2))) := Ex.mut ((Ex.mut (y1.trans ((x4.trans x5).trans (x6.trans x7))) hp0).trans x8) hp0
          have hl8 : ((F'.set i (common c1 c2)).set j u).length ≤ 16 := by rw [hst.len]; exact hl2
          refine k_setN (n_sortKU (ha := v_var rfl (.inl ⟨p, _, rfl, upd_same, hr8, by show _ ≤ 4000; omega⟩))) fun p' H9 xs' F2 hp' x9 hxs' hr' hl' hperm' => ?_
          have hst2 := hst.perm hperm'
          have hp0' : H p' = none := fresh_back y8 hp'
          refine k_setP1 (p_call2V (v_many (v_var rfl ((dNet C).up (y8.trans x9) ra))) (v_var rfl (.inl ⟨p', xs', rfl, hxs', hr', hl'⟩)) ⟨hn0, by rw [hst2.len]; omega, fun c hc' => hcl c (hst2.cut c hc')⟩) fun v3' Ha o' xa ro' ho' => ?_
          exact ⟨p', xs', F2, o', v3', _, _, _, _, rfl, (y8.trans x9).trans xa, hp0', xa _ _ hxs', AllR.up xa hr', by rw [hst2.len]; exact hl2, ro', ho', ⟨hst2.cut, hst2.len.trans hlen, fun e => (hst2.use e).trans (hu e)⟩, hst2.less⟩
  · have ho' : o = none := by
      cases o with
      | none => rfl
      | some _ => cases hb
    subst ho'
    have rL : (dL (dT dI)).r H4 (.ref p) F' := ⟨p, xs, rfl, x4 _ _ hxs, AllR.up x4 hr, by show _ ≤ 4000; omega⟩
    exact k_retV (v_tuple (v_var rfl rL)) fun z H5 x5 r5 => q z H5 F' ((y1.trans x4).trans x5) r5 ⟨hc, hlen, hu, ho⟩
end Ow
-- OwF7
/-! sides_of. -/
namespace Ow
open PySem PySem.Spec PyProof.Rows L2 Evl
section
variable {K : PySem.W.Frag} {σ : L2.St} {H : Hp} {D : Ends} {tz : TS}
theorem v_neg {te : TE} {i : Int} (h : EvV dI te σ H i) : EvV dI (tUn (rU fun i => .int (-i)) te) σ H (-i) := fun H1 x Q q => h H1 x _ fun v H2 x2 r => ⟨i, r, q _ H2 x2 rfl⟩
theorem kq_pop {i j : Nat} {p : Addr} {xs : List V} {y : V} (hv : σ[i]? = some (some (.ref p))) (hp : H p = some (.lst xs)) (hy : xs[xs.length - 1]? = some y) (k : tz D (σ.set j (some y)) (upd H p (.lst xs.dropLast))) :
    tSeq (tAsg (tBM0 K "list" rPop (tVar i)) (gName j)) tz D σ H := ⟨_, hv, .inl ⟨rfl, xs, sq_of hp⟩, p, xs, y, rfl, rfl, hp, hy, k⟩
end
abbrev iS (S : List Int) : List V := S.map V.int
abbrev iA (A : List Nat) : List V := A.map fun a : Nat => V.int (a : Int)
theorem iS_set (S : List Int) (i : Nat) (v : Int) : (iS S).set i (.int v) = iS (S.set i v) := by
  show (S.map V.int).set i (V.int v) = (S.set i v).map V.int
  rw [List.map_set]
theorem rS {H : Hp} {p : Addr} {S : List Int} (h : H p = some (.lst (iS S))) (hl : S.length ≤ 4000) : (dL dI).r H (.ref p) S := ⟨p, _, rfl, h, allI' _ S, hl⟩
theorem rA {H : Hp} {p : Addr} {A : List Nat} (h : H p = some (.lst (iA A))) (hl : A.length ≤ 4000) : (dL dI).r H (.ref p) (A.map Int.ofNat) := by
  refine ⟨p, _, rfl, h, ?_, by rw [List.length_map]; exact hl⟩
  have e : iA A = (A.map Int.ofNat).map V.int := by
    rw [List.map_map]
    rfl
  rw [e]
  exact allI' _ _
theorem getD_at {R : List (List Int)} {i : Nat} (h : i < R.length) : R[i]? = some (R.getD i []) := by
  rw [List.getD_eq_getElem?_getD, List.getElem?_eq_getElem h]
  rfl

/-- the walk from the vertices ahead -/
theorem sides_loop {K : PySem.W.Frag} {H : Hp} {v1 : V} {R : List (List Int)} {χ : Nat → Bool} {ps pa : Addr} {i : Nat} {o4 o5 : Option V} {D : Ends} (ra : (dL (dT dI)).r H v1 R) (hl : R.length ≤ 16) (pr : Proper R χ) (hps : H ps = none) (hpa : H pa = none) (hne : ps ≠ pa)
    (hnx : ∀ σ' H' S, Ex H H' → (∃ o2 o3 o4 o5, σ' = [some v1, some (.ref ps), o2, o3, o4, o5, none]) → H' ps = some (.lst (iS S)) → Clr R χ S (fun i => sAt S i ≠ -1) false [] noE → (∀ j, j < i + 1 → sAt S j ≠ -1) → sAt S 0 = 0 → D.nx σ' H')
    (S : List Int) (A : List Nat) (Dn : Nat → Prop) (s' : Bool) (H4 : Hp) (x4 : Ex H H4) (hS : H4 ps = some (.lst (iS S))) (hA : H4 pa = some (.lst (iA A))) (c : Clr R χ S Dn s' A noE) (hcol : ∀ j, j < i + 1 → sAt S j ≠ -1) (h0 : sAt S 0 = 0) (hAl : 2 * unc S + A.length ≤ 100) :
    tWhile (tTest (tOp (rNeD K) (tVar 3) (tLst tNil))) (tSeq (tAsg (tBM0 K "list" rPop (tVar 3)) (gName 4)) (tFor (iRng1 (tCons (tCB (rLenU K) (tCons (tVar 0) tNil)) tNil)) (gName 5) (tIfS (tAnd (tTest (tOp (rEqD K) (tOp (rIx K) (tVar 1) (tVar 5)) (tUn (rU fun i => .int (-i)) (tC (.int 1))))) (tB (tCall sp_have_common [] E0 (tCons (tOp (rIx K) (tVar 0) (tVar 4)) (tCons (tOp (rIx K) (tVar 0) (tVar 5)) tNil))))) (tSeq (tAsg (tOp rMinus (tC (.int 1)) (tOp (rIx K) (tVar 1) (tVar 4))) (gSub (tVar 1) (tVar 5) rSetL)) (tDrop (tBM K "list" rAppend (tVar 3) (tCons (tVar 5) tNil)))) tNext)))
      D [some v1, some (.ref ps), some (.int (i : Int)), some (.ref pa), o4, o5, none] H4 := by
  have hln : (R.length : Int).toNat = R.length := Int.toNat_natCast _
  refine s_while (fun m σ' H' => ∃ S A Dn s' o4 o5, σ' = [some v1, some (.ref ps), some (.int (i : Int)), some (.ref pa), o4, o5, none] ∧ Ex H H' ∧ H' ps = some (.lst (iS S)) ∧ H' pa = some (.lst (iA A)) ∧ Clr R χ S Dn s' A noE ∧ (∀ j, j < i + 1 → sAt S j ≠ -1) ∧ sAt S 0 = 0 ∧ 2 * unc S + A.length ≤ 100 ∧ m = 2 * unc S + A.length) _
    ⟨S, A, Dn, s', _, _, rfl, x4, hS, hA, c, hcol, h0, hAl, rfl⟩ ?_
  rintro m σ' H5 ⟨S, A, Dn, s', o4, o5, rfl, x5, hS, hA, c, hcol, h0, hAl, rfl⟩
  refine ⟨decide (A.map Int.ofNat ≠ []), t_test (v_ne (encL encI) (v_var rfl (rA hA (by omega))) v_lst0), fun hb H6 x6 => ?_, fun hb H6 x6 => ?_⟩
  · have hAne : A ≠ [] := fun z => (of_decide_eq_true hb) (by rw [z]; rfl)
    obtain ⟨A', t, rfl⟩ : ∃ A' t, A = A' ++ [t] := ⟨A.dropLast, A.getLast hAne, (List.dropLast_concat_getLast hAne).symm⟩
    obtain ⟨ht, hct, hnD⟩ := c.stk t (List.mem_append_right _ (List.mem_singleton.mpr rfl))
    have hAl' : (A' ++ [t]).length = A'.length + 1 := by rw [List.length_append]; rfl
    have eA : iA (A' ++ [t]) = iA A' ++ [.int (t : Int)] := by
      show (A' ++ [t]).map _ = _
      rw [List.map_append]
      rfl
    have hst : sAt S t = b2i (χ t != s') := (c.cur t ht hct).resolve_left hnD
    refine ⟨fun σ2 H7 => ∃ S2 A2 o4 o5, σ2 = [some v1, some (.ref ps), some (.int (i : Int)), some (.ref pa), o4, o5, none] ∧ Ex H H7 ∧ H7 ps = some (.lst (iS S2)) ∧ H7 pa = some (.lst (iA A2)) ∧ Clr R χ S2 Dn s' A2 noE ∧ (∀ j, j < i + 1 → sAt S2 j ≠ -1) ∧ sAt S2 0 = 0 ∧ 2 * unc S2 + A2.length ≤ 2 * unc S + A'.length, ?_, ?_⟩
    · rintro σ2 H7 ⟨S2, A2, o4, o5, rfl, a1, a2, a3, a4, a5, a6, a7⟩
      exact ⟨_, by omega, S2, A2, Dn, s', o4, o5, rfl, a1, a2, a3, a4, a5, a6, by omega, rfl⟩
    · refine kq_pop (xs := iA (A' ++ [t])) (y := .int (t : Int)) rfl (x6 _ _ hA) (by rw [eA]; simp) ?_
      have hdl : (iA (A' ++ [t])).dropLast = iA A' := by rw [eA, List.dropLast_concat]
      rw [hdl]
      have y6 : Ex H (upd H6 pa (.lst (iA A'))) := Ex.mut (x5.trans x6) hpa
      have hS6 : upd H6 pa (.lst (iA A')) ps = some (.lst (iS S)) := by rw [upd_ne hne]; exact x6 _ _ hS
      refine k_forR1 (n := (R.length : Int)) (v_lenL (v_var rfl ((dL (dT dI)).up y6 ra))) (by omega) (by omega) (fun k σ2 H7 => ∃ S2 A2 o5, σ2 = [some v1, some (.ref ps), some (.int (i : Int)), some (.ref pa), some (.int (t : Int)), o5, none] ∧ Ex H H7 ∧ H7 ps = some (.lst (iS S2)) ∧ H7 pa = some (.lst (iA A2)) ∧ Clr R χ S2 Dn s' A2 (penE t k) ∧ (∀ j, j < i + 1 → sAt S2 j ≠ -1) ∧ sAt S2 0 = 0 ∧ sAt S2 t = b2i (χ t != s') ∧ 2 * unc S2 + A2.length ≤ 2 * unc S + A'.length)
        (fun H7 x7 => ⟨S, A', _, rfl, y6.trans x7, x7 _ _ hS6, x7 _ _ upd_same, c.pop, hcol, h0, hst, Nat.le_refl _⟩) (fun k σ2 H7 hk hp => ?_) fun σ2 H7 hp => ?_
      · rw [hln] at hk
        obtain ⟨S2, A2, o5, rfl, x7, hS7, hA7, c7, hcol7, h07, hst7, hm7⟩ := hp
        have hSl : S2.length = R.length := c7.len
        have raH := (dL (dT dI)).up x7 ra
        refine k_when (b := decide (sAt S2 k = -1) && (R.getD t []).any fun x => decide (x ∈ R.getD k [])) (et_and (t_test (v_eq encI (v_ixL (v_var rfl (rS hS7 (by omega))) (v_var rfl rfl) (by omega) (by rw [Int.toNat_natCast]; exact sAt_get (by omega))) (v_neg v_int))) fun _ => t_B (v_call2 (v_ixL (v_var rfl raH) (v_var rfl rfl) (by omega) (by rw [Int.toNat_natCast]; exact getD_at ht)) (v_ixL (v_var rfl raH) (v_var rfl rfl) (by omega) (by rw [Int.toNat_natCast]; exact getD_at hk)) trivial fun _ z => z)) (fun hc H8 x8 => ?_) fun hc H8 x8 => ?_
        · rw [Bool.and_eq_true, decide_eq_true_eq, List.any_eq_true] at hc
          obtain ⟨hu, x, hx1, hx2⟩ := hc
          have ha : adj R t k := ⟨x, hx1, of_decide_eq_true hx2⟩
          have htk : t ≠ k := fun z => by
            rw [z, hu] at hst7
            exact absurd hst7.symm (b2i_ne _)
          have hχ := pr t k ht hk htk ha
          have hS8 := x8 _ _ hS7
          have hkl : k < S2.length := by omega
          refine kq_setI (f := dI) (b := 1 - sAt S2 t) (xs := iS S2) rfl hS8 (v_I0 v_int (v_ixL (v_var rfl (rS hS8 (by omega))) (v_var rfl rfl) (by omega) (by rw [Int.toNat_natCast]; exact sAt_get (by omega)))) (v_var rfl rfl) (by show k < (S2.map V.int).length; rw [List.length_map]; exact hkl) fun w H9 x9 r9 => ?_
          obtain rfl : w = V.int (1 - sAt S2 t) := r9
          have hA9 : H9 pa = some (.lst (iA A2)) := x9 _ _ (x8 _ _ hA7)
          rw [iS_set]
          have hA10 : upd H9 ps (.lst (iS (S2.set k (1 - sAt S2 t)))) pa = some (.lst (iA A2)) := by rw [upd_ne (Ne.symm hne)]; exact hA9
          have hv : 1 - sAt S2 t = b2i (χ k != s') := by
            rw [hst7, b2i_not]
            congr 1
            revert hχ
            cases χ t <;> cases χ k <;> cases s' <;> decide
          have hmu := unc_set hkl hu (v := 1 - sAt S2 t) (by rw [hv]; exact b2i_ne _)
          have c8 := (c7.put pr hk hu hv).next fun _ _ => by rw [sAt_set hkl, if_pos rfl, hv]; exact b2i_ne _
          have hA2l : A2.length ≤ 100 := by omega
          refine k_app (f := dI) (b := (k : Int)) (xs := iA A2) rfl hA10 (by show (A2.map _).length < 100000; rw [List.length_map]; omega) (v_var rfl rfl) fun w H11 x11 r11 => ?_
          obtain rfl : w = V.int (k : Int) := r11
          have eA2 : iA A2 ++ [.int (k : Int)] = iA (A2 ++ [k]) := by
            show _ = (A2 ++ [k]).map _
            rw [List.map_append]
            rfl
          rw [eA2]
          refine ⟨S2.set k (1 - sAt S2 t), A2 ++ [k], _, rfl, Ex.mut ((Ex.mut (x7.trans (x8.trans x9)) hps).trans x11) hpa, ?_, upd_same, c8, fun j hj => ?_, ?_, ?_, ?_⟩
          · rw [upd_ne hne]
            exact x11 _ _ upd_same
          · rw [sAt_set hkl]
            split
            · rw [hv]; exact b2i_ne _
            · exact hcol7 j hj
          · rw [sAt_set hkl, if_neg]
            · exact h07
            · intro z
              rw [← z, h07] at hu
              exact absurd hu (by decide)
          · rw [sAt_set hkl, if_neg htk]
            exact hst7
          · rw [List.length_append]
            show _ + (A2.length + 1) ≤ _
            omega
        · refine ⟨S2, A2, _, rfl, x7.trans x8, x8 _ _ hS7, x8 _ _ hA7, c7.next fun _ ha hu => ?_, hcol7, h07, hst7, hm7⟩
          obtain ⟨x, hx1, hx2⟩ := ha
          rw [Bool.and_eq_false_iff, decide_eq_false_iff_not] at hc
          rcases hc with hc | hc
          · exact hc hu
          · rw [List.any_eq_false] at hc
            exact hc x hx1 (decide_eq_true hx2)
      · obtain ⟨S2, A2, o5, rfl, x7, hS7, hA7, c7, hcol7, h07, hst7, hm7⟩ := hp
        rw [hln] at c7
        exact ⟨S2, A2, _, _, rfl, x7, hS7, hA7, c7.endT, hcol7, h07, hm7⟩
  · have hAe : A = [] := by
      have h := of_decide_eq_false hb
      cases A with
      | nil => rfl
      | cons a A => exact absurd (fun z => nomatch z) h
    subst hAe
    exact hnx _ H6 S (x5.trans x6) ⟨_, _, _, _, rfl⟩ (x6 _ _ hS) (c.fin false) hcol h0

abbrev sp_sides_of  : Sp := sp1 (dL (dT dI)) (dL dI) (fun R => R.length ≤ 16 ∧ ∃ χ, Proper R χ) fun R S => Sides R S
abbrev H_sides_of (P : Program) (w : World) (K : PySem.W.Frag) (mg : Str → Option Value) (base : Heap)  : Prop := FnAt P w K mg base "sides_of" 2 ["rows"] sp_sides_of
theorem ok_sides_of {P : Program} {w : World} {K : PySem.W.Frag} {mg : Str → Option Value} {base : Heap}  (D : DefAt K mg "sides_of" s_sides_of) (B : Bts mg) (h_have_common : H_have_common P w K mg base)  : H_sides_of P w K mg base := by
  refine fnAt D sc_sides_of (fun _ _ _ _ _ _ us hl => match us, hl with | [_], _ => rfl) sp1_len fun fad cdv A outer s H vs Q E hr h => ⟨_, PSs.nox (pss_cons (ps_setLc (i := 1) (own := [("row", 6)]) rfl sc_sides_of.nd rfl rfl (sw_true rfl rfl rfl (by decide +kernel)) (kWalk K (pv 0))
      (blkOk_by (own := [("row", 6)]) (N := N_sides_of) (sc := defScope s_sides_of) (by decide +kernel))
      (fun _ _ _ _ _ => (pg_name (i := 6) sc_sides_of.nd rfl (by first | exact Or.inl rfl | exact Or.inr rfl))) (fun _ _ _ _ _ => pts_nil) (fun _ _ _ _ _ => (pe_un un_neg pe_int)))
    (pss_cons (ps_for PassesOwn.never rfl (pi_range1 (by rfl) B.range (pa_cons (pe_callB (kLen K) (by rfl) B.len PySem.boot_len (pa_cons (pv 0) pa_nil)) pa_nil)) (pg_name (i := 2) sc_sides_of.nd rfl (by first | exact Or.inl rfl | exact Or.inr rfl))
    (pss_cons (ps_set (i := 3) sc_sides_of.nd rfl (by first | exact Or.inl rfl | exact Or.inr rfl) (pe_ifExp (pt_cmpR (kEq K hr.units) (pe_ix (kIx K) (pv 1) (pv 2) (fun _ _ => rfl)) (pe_un un_neg pe_int) (nomark _)) (pe_lst (pa_cons (pv 2) pa_nil)) (pe_lst pa_nil)))
    (pss_cons (ps_if (pt_cmpR (kNe K hr.units) (pv 3) (pe_lst pa_nil) (nomark _)) (pss_one (ps_asg pe_int (pg_sub (pv 1) (pv 2) set_list))) pss_nil)
    (pss_one (ps_while PassesOwn.never (pt_cmpR (kNe K hr.units) (pv 3) (pe_lst pa_nil) (nomark _)) (pss_cons (ps_set (i := 4) sc_sides_of.nd rfl (by first | exact Or.inl rfl | exact Or.inr rfl) (pe_bm0 PySem.F.plainAttrs_list PySem.F.slot_list_pop PySem.F.type_list_pop mt_pop (pv 3)))
    (pss_one (ps_for PassesOwn.never rfl (pi_range1 (by rfl) B.range (pa_cons (pe_callB (kLen K) (by rfl) B.len PySem.boot_len (pa_cons (pv 0) pa_nil)) pa_nil)) (pg_name (i := 5) sc_sides_of.nd rfl (by first | exact Or.inl rfl | exact Or.inr rfl))
    (pss_one (ps_if (PW.pt (pw_and (pt_cmpR (kEq K hr.units) (pe_ix (kIx K) (pv 1) (pv 5) (fun _ _ => rfl)) (pe_un un_neg pe_int) (nomark _)) (pw_and1 (pt_val (pcall h_have_common hr (by decide) rfl (pa_cons (pe_ix (kIx K) (pv 0) (pv 4) (fun _ _ => rfl)) (pa_cons (pe_ix (kIx K) (pv 0) (pv 5) (fun _ _ => rfl)) pa_nil))))))) (pss_cons (ps_asg (pe_op op_sub pe_int (pe_ix (kIx K) (pv 1) (pv 4) (fun _ _ => rfl))) (pg_sub (pv 1) (pv 5) set_list))
    (pss_one (ps_expr (pe_bm PySem.F.plainAttrs_list PySem.F.slot_list_append PySem.F.type_list_append mt_append (pv 3) (pa_cons (pv 5) pa_nil))))) pss_nil))))))))))
    (pss_one (ps_ret (pv 1))))), ?_⟩
  obtain ⟨v1, R, rfl, ra, ⟨hl, χ, pr⟩, q⟩ := h
  have hln : (R.length : Int).toNat = R.length := Int.toNat_natCast _
  refine k_setN (n_lcN (fun _ => (-1 : Int)) im_I (s_anyL (v_var rfl ra)) (dL_len ra) b_name (fun _ _ _ ⟨_, e, _⟩ => by subst e; rfl) fun _ _ _ _ _ _ _ _ => v_neg v_int) fun ps H1 xs S0 hps x1 hxs hr _ hS0 => ?_
  subst hS0
  have hr := allI hr
  subst hr
  refine kq_forR1 (n := (R.length : Int)) (v_lenL (v_var rfl ((dL (dT dI)).up x1 ra))) (by omega) (by omega) (fun i σ' H' => Ex H H' ∧ (∃ o2 o3 o4 o5, σ' = [some v1, some (.ref ps), o2, o3, o4, o5, none]) ∧ ∃ S, H' ps = some (.lst (iS S)) ∧ Clr R χ S (fun i => sAt S i ≠ -1) false [] noE ∧ (∀ j, j < i → sAt S j ≠ -1) ∧ (sAt S 0 = 0 ∨ (i = 0 ∧ sAt S 0 = -1)))
    (fun H2 x2 => ⟨x1.trans x2, ⟨none, none, none, none, rfl⟩, _, x2 _ _ hxs, clr_new R χ false, fun j hj => absurd hj (Nat.not_lt_zero j), .inr ⟨rfl, by
      unfold sAt
      rw [List.getD_eq_getElem?_getD, List.getElem?_map]
      cases R[0]? <;> rfl⟩⟩) (fun i σ' H2 hi hp => ?_) fun σ' H2 hp => ?_
  · rw [hln] at hi
    obtain ⟨x2, ⟨o2, o3, o4, o5, rfl⟩, S, hS, c, hcol, h0⟩ := hp
    have hSl : S.length = R.length := c.len
    have hiS : i < S.length := by omega
    refine k_setN (n_if (b := decide (sAt S i = -1)) (t_test (v_eq encI (v_ixL (v_var rfl (rS hS (by omega))) (v_var rfl rfl) (by omega) (by rw [Int.toNat_natCast]; exact sAt_get hiS)) (v_neg v_int))) (fun hb => EvN.imp (P' := fun y => y = (if sAt S i = -1 then [i] else []).map Int.ofNat) (n_lst1 (e := dI) (a := (i : Int)) (v_var rfl rfl)) fun y hy => by rw [hy, if_pos (of_decide_eq_true hb)]; rfl) fun hb => EvN.imp n_lst0 fun y hy => by rw [hy, if_neg (of_decide_eq_false hb)]; rfl) fun pa H3 xs A0 hpa x3 hxs3 hr3 hl3 hA0 => ?_
    have hr3 := allI hr3
    subst hA0
    have e3 : xs = iA (if sAt S i = -1 then [i] else []) := by
      rw [hr3, List.map_map]
      rfl
    subst e3
    have hpa0 : H pa = none := fresh_back x2 hpa
    have hne : ps ≠ pa := fun z => by rw [← z, hS] at hpa; cases hpa
    have hS3 : H3 ps = some (.lst (iS S)) := x3 _ _ hS
    have hunc : unc S ≤ 16 := Nat.le_trans List.count_le_length (by omega)
    refine q_when (b := decide (sAt S i = -1)) (EvT.is (t_test (v_ne (encL encI) (v_var rfl (rA hxs3 (by split <;> simp))) v_lst0)) ?_) (fun hb H4 x4 => ?_) fun hb H4 x4 => ?_
    · by_cases hu : sAt S i = -1
      · rw [if_pos hu, decide_eq_true hu]
        rfl
      · rw [if_neg hu, decide_eq_false hu]
        rfl
    · have hu := of_decide_eq_true hb
      rw [if_pos hu] at hxs3
      refine k_setI (f := dI) (b := 0) (xs := iS S) rfl (x4 _ _ hS3) v_int (v_var rfl rfl) (by show i < (S.map V.int).length; rw [List.length_map]; exact hiS) fun w H5 x5 r5 => ?_
      obtain rfl : w = V.int 0 := r5
      rw [iS_set]
      have c2 := c.start pr hi hu
      have hm := unc_set hiS hu (v := 0) (by decide)
      refine sides_loop (i := i) ra hl pr hps hpa0 hne ?_ (S.set i 0) [i] _ _ _ (Ex.mut ((x2.trans x3).trans (x4.trans x5)) hps) upd_same (by rw [upd_ne (Ne.symm hne)]; exact x5 _ _ (x4 _ _ hxs3)) c2 (fun j hj => ?_) ?_ (by show 2 * unc (S.set i 0) + 1 ≤ 100; omega)
      · exact fun σ' H' S' a1 a2 a3 a4 a5 a6 => ⟨a1, a2, S', a3, a4, a5, .inl a6⟩
      · rw [sAt_set hiS]
        split
        · decide
        · exact hcol j (by omega)
      · rw [sAt_set hiS]
        split
        · rfl
        · exact h0.resolve_right fun z => by omega
    · have hu := of_decide_eq_false hb
      rw [if_neg hu] at hxs3
      refine sides_loop (i := i) ra hl pr hps hpa0 hne ?_ S [] _ _ _ ((x2.trans x3).trans x4) (x4 _ _ hS3) (x4 _ _ hxs3) c (fun j hj => by
        by_cases e : j = i
        · rw [e]; exact hu
        · exact hcol j (by omega)) (h0.resolve_right fun ⟨z1, z2⟩ => hu (by rw [z1]; exact z2)) (by show 2 * unc S + 0 ≤ 100; omega)
      exact fun σ' H' S' a1 a2 a3 a4 a5 a6 => ⟨a1, a2, S', a3, a4, a5, .inl a6⟩
  · obtain ⟨x2, ⟨o2, o3, o4, o5, rfl⟩, S, hS, c, hcol, h0⟩ := hp
    rw [hln] at hcol h0
    have hSl : S.length = R.length := c.len
    refine k_retV (f := dL dI) (y := S) (v_var rfl (rS hS (by omega))) fun w H3 x3 r3 => q w H3 S (x2.trans x3) r3 ⟨c.len, fun i hi => (c.val i).resolve_left (hcol i hi), fun i j hi hj hne ha => c.dif i j hi hj hne ha (hcol i hi) (hcol j hj), fun h => h0.resolve_right fun z => by omega⟩
end Ow
-- OwF8
/-! halves. -/
namespace Ow
open PySem PySem.Spec PyProof.Rows L2 Evl

/-! ### the numbers of the roads into a set -/
theorem zipIdx_count (p : Pl) (e : Nat) : ∀ (rs : List Road) (k : Nat), (rs.zipIdx k).countP (fun a => decide ((a.2 : Int) = (e : Int)) && hitR a.1 p) = if k ≤ e then (hit rs p (e - k)).toNat else 0
  | [], k => by
    rw [List.zipIdx_nil]
    unfold hit
    simp
  | r :: rs, k => by
    rw [List.zipIdx_cons, List.countP_cons, zipIdx_count p e rs (k + 1)]
    by_cases h : k = e
    · subst h
      rw [if_neg (by omega), if_pos (Nat.le_refl k), Nat.sub_self]
      unfold hit
      show 0 + _ = _
      rw [decide_eq_true rfl]
      show 0 + (if hitR r p = true then 1 else 0) = (hitR r p).toNat
      cases hitR r p <;> rfl
    · have e0 : decide ((k : Int) = (e : Int)) = false := decide_eq_false (by omega)
      rw [e0]
      by_cases h2 : k ≤ e
      · rw [if_pos (by omega : k + 1 ≤ e), if_pos h2]
        have e1 : e - k = (e - (k + 1)) + 1 := by omega
        rw [e1]
        simp [hit]
      · rw [if_neg (by omega), if_neg h2]
        simp
theorem into_count (rs : List Road) (p : Pl) (e : Nat) : (into rs p).count (e : Int) = (hit rs p e).toNat := by
  unfold into enumI
  rw [List.count_eq_countP, List.countP_map, List.countP_filter, List.countP_map]
  have h := zipIdx_count p e rs 0
  rw [if_pos (Nat.zero_le e)] at h
  rw [← Nat.sub_zero e, ← h]
  refine List.countP_congr fun a _ => ?_
  simp [hitR, and_comm]
theorem into_mem {rs : List Road} {p : Pl} {x : Int} (h : x ∈ into rs p) : ∃ e : Nat, x = (e : Int) ∧ hit rs p e = true := by
  have h0 := h
  unfold into enumI at h
  obtain ⟨a, ha, rfl⟩ := List.mem_map.mp h
  obtain ⟨b, hb, rfl⟩ := List.mem_map.mp (List.mem_filter.mp ha).1
  refine ⟨b.2, rfl, ?_⟩
  have hc : 0 < (into rs p).count ((b.2 : Nat) : Int) := List.count_pos_iff.mpr h0
  rw [into_count] at hc
  cases hh : hit rs p b.2 with
  | true => rfl
  | false => rw [hh] at hc; exact absurd hc (by decide)
theorem into_len (rs : List Road) (p : Pl) : (into rs p).length ≤ rs.length := by
  unfold into
  rw [List.length_map]
  exact Nat.le_trans (List.length_filter_le _ _) (Nat.le_of_eq (enumI_len rs))
theorem flat_len {α β : Type} {G : α → List β} {B : Nat} : ∀ {F : List α}, (∀ a, a ∈ F → (G a).length ≤ B) → (F.flatMap G).length ≤ F.length * B
  | [], _ => Nat.zero_le _
  | a :: F, h => by
    rw [List.flatMap_cons, List.length_append, List.length_cons, Nat.add_mul]
    have := h a (List.mem_cons_self ..)
    have := flat_len (F := F) fun b hb => h b (List.mem_cons_of_mem _ hb)
    omega
theorem uses_count (rs : List Road) (F : List Pl) (e : Nat) : (F.flatMap (into rs)).count (e : Int) = useF rs F e := by
  induction F with
  | nil => rfl
  | cons p F ih =>
    rw [List.flatMap_cons, List.count_append, ih, into_count]
    show _ = List.countP _ (p :: F)
    rw [List.countP_cons]
    show (hit rs p e).toNat + List.countP _ F = _
    cases hit rs p e <;> simp <;> omega
theorem usesL_eq (rs : List Road) (F : List Pl) : usesL rs F = (List.range rs.length).map fun e => (useF rs F e : Int) := by
  unfold usesL upFrom
  rw [List.map_map]
  refine List.map_congr_left fun e _ => ?_
  show (((F.flatMap (into rs)).count (0 + (e : Int)) : Nat) : Int) = _
  rw [Int.zero_add, uses_count]

/-! ### the halves -/
theorem countP_one {α : Type} {p : α → Bool} : ∀ {l : List α}, l.Pairwise (fun a b => ¬ (p a = true ∧ p b = true)) → l.countP p ≤ 1
  | [], _ => Nat.zero_le _
  | a :: l, h => by
    obtain ⟨h1, h2⟩ := List.pairwise_cons.mp h
    rw [List.countP_cons]
    cases ha : p a with
    | true =>
      have : l.countP p = 0 := List.countP_eq_zero.mpr fun b hb hp => h1 b hb ⟨ha, hp⟩
      rw [this]
      simp
    | false =>
      have := countP_one h2
      simp
      omega
/-- the places of a side -/
def sideOf (F : List Pl) (S : List Int) (v : Int) : List Pl := ((F.zip S).filter fun z => decide (z.2 = v)).map Prod.fst
theorem zip_fst {α β : Type} : ∀ {l : List α} {m : List β}, l.length ≤ m.length → (l.zip m).map Prod.fst = l
  | [], _, _ => rfl
  | _ :: _, _ :: _, h => congrArg _ (zip_fst (Nat.le_of_succ_le_succ h))
  | _ :: _, [], h => absurd h (by simp)
structure HalfPost (N : NetD) (F : List Pl) (y : List Pl × List Pl) : Prop where
  perm : (y.1 ++ y.2).Perm F
  one : ∀ e, useF N.2 y.1 e ≤ 1
  two : ∀ e, useF N.2 y.2 e ≤ 1
  first : F ≠ [] → y.1 ≠ []
theorem side_use {rs : List Road} {F : List Pl} {S : List Int} (s : Sides (F.map (into rs)) S) (v : Int) (e : Nat) : useF rs (sideOf F S v) e ≤ 1 := by
  have hl : S.length = F.length := s.len.trans (List.length_map _)
  show List.countP _ (sideOf F S v) ≤ 1
  unfold sideOf
  rw [List.countP_map, List.countP_filter]
  refine countP_one (List.pairwise_iff_getElem.mpr fun i j hi hj hij => ?_)
  rintro ⟨h1, h2⟩
  rw [Bool.and_eq_true, decide_eq_true_eq] at h1 h2
  rw [List.length_zip] at hi hj
  have hiF : i < F.length := by omega
  have hjF : j < F.length := by omega
  have hiR : i < (F.map (into rs)).length := by rw [List.length_map]; exact hiF
  have hjR : j < (F.map (into rs)).length := by rw [List.length_map]; exact hjF
  have gi : ∀ k (hk : k < F.length), (F.map (into rs)).getD k [] = into rs F[k] := fun k hk => by
    rw [List.getD_eq_getElem?_getD, List.getElem?_map, List.getElem?_eq_getElem hk]
    rfl
  have mem : ∀ k (hk : k < F.length), hit rs F[k] e = true → (e : Int) ∈ into rs F[k] := fun k hk h => by
    refine List.count_pos_iff.mp ?_
    rw [into_count, h]
    decide
  have ha : adj (F.map (into rs)) i j := ⟨(e : Int), by rw [gi i hiF]; refine mem i hiF ?_; simpa using h1.1, by rw [gi j hjF]; refine mem j hjF ?_; simpa using h2.1⟩
  refine s.dif i j hiR hjR (Nat.ne_of_lt hij) ha ?_
  have es : ∀ k (hk : k < F.length), sAt S k = S[k]'(by omega) := fun k hk => by
    unfold sAt
    rw [List.getD_eq_getElem?_getD, List.getElem?_eq_getElem (by omega)]
    rfl
  rw [es i hiF, es j hjF]
  have a1 : S[i]'(by omega) = v := by simpa using h1.2
  have a2 : S[j]'(by omega) = v := by simpa using h2.2
  rw [a1, a2]
theorem half_post {N : NetD} {F : List Pl} {S : List Int} (s : Sides (F.map (into N.2)) S) : HalfPost N F (sideOf F S 0, sideOf F S 1) where
  perm := by
    have hl : S.length = F.length := s.len.trans (List.length_map _)
    show (sideOf F S 0 ++ sideOf F S 1).Perm F
    unfold sideOf
    rw [← List.map_append]
    have e : (F.zip S).filter (fun z => decide (z.2 = 1)) = (F.zip S).filter fun z => !decide (z.2 = 0) := by
      refine List.filter_congr fun z hz => ?_
      obtain ⟨i, hi, ez⟩ := List.getElem_of_mem hz
      rw [List.length_zip] at hi
      have h2 : z.2 = sAt S i := by
        rw [← ez, List.getElem_zip]
        unfold sAt
        rw [List.getD_eq_getElem?_getD, List.getElem?_eq_getElem (by omega)]
        rfl
      have := s.val i (by rw [List.length_map]; omega)
      rcases this with v | v
      · rw [h2, v]; rfl
      · rw [h2, v]; rfl
    rw [e]
    have h1 := (List.filter_append_perm (fun z : Pl × Int => decide (z.2 = 0)) (F.zip S)).map Prod.fst
    rw [zip_fst (by omega)] at h1
    exact h1
  one := side_use s 0
  two := side_use s 1
  first := fun h => by
    have hl : S.length = F.length := s.len.trans (List.length_map _)
    match F, S, h, hl, s with
    | p :: F, v :: S, _, _, s =>
      have h0 : sAt (v :: S) 0 = 0 := s.first (Nat.succ_pos _)
      have h0 : v = 0 := h0
      subst h0
      show sideOf (p :: F) (0 :: S) 0 ≠ []
      unfold sideOf
      simp
    | p :: F, [], _, hl, _ => exact absurd hl (by simp)

abbrev sp_halves (C : Addr) : Sp := sp2 (dNet C) (dT (dT dI)) (dP (dT (dT dI)) (dT (dT dI))) (fun N F => 0 ≤ N.1 ∧ N.1 ≤ 30 ∧ N.2.length ≤ 100 ∧ F.length ≤ 16 ∧ RoadsOk N.1.toNat N.2 ∧ (∀ p, p ∈ F → IsCut N.1.toNat N.2 p) ∧ Calm N.1.toNat F ∧ ∀ e, e < N.2.length → useF N.2 F e ≤ 2) fun N F y => HalfPost N F y
abbrev H_halves (P : Program) (w : World) (K : PySem.W.Frag) (mg : Str → Option Value) (base : Heap) (C : Addr) : Prop := FnAt P w K mg base "halves" 7 ["net", "family"] (sp_halves C)
theorem ok_halves {P : Program} {w : World} {K : PySem.W.Frag} {mg : Str → Option Value} {base : Heap} {C : Addr} (D : DefAt K mg "halves" s_halves) (B : Bts mg) (h_need_family : H_need_family P w K mg base C) (h_first_crossing : H_first_crossing P w K mg base) (h_sides_of : H_sides_of P w K mg base) (h_roads_into : H_roads_into P w K mg base C) (h_uses_of : H_uses_of P w K mg base C) (NK : NetK P w K mg base C)  : H_halves P w K mg base C := by
  refine fnAt D sc_halves (fun _ _ _ _ _ _ us hl => match us, hl with | [_, _], _ => rfl) sp2_len fun fad cdv A outer s H vs Q E hr h => ⟨_, PSs.nox (pss_cons (ps_expr (pcall h_need_family hr (by decide) rfl (pa_cons (pv 0) (pa_cons (pv 1) pa_nil))))
    (pss_cons (ps_set (i := 2) sc_halves.nd rfl (by first | exact Or.inl rfl | exact Or.inr rfl) (pcall h_first_crossing hr (by decide) rfl (pa_cons (pprop NK.cls NK.many hr (by decide) (pv 0)) (pa_cons (pv 1) pa_nil))))
    (pss_cons (ps_if (pt_cmpR op_notN (pv 2) pe_non (nomark _)) (pss_one ps_never) pss_nil)
    (pss_cons (ps_setLc (i := 3) (own := [("number", 6), ("use", 7)]) rfl sc_halves.nd rfl rfl (sw_true rfl rfl rfl (by decide +kernel)) (kEnumT K (by rfl) B.enumerate (pa_cons (pcall h_uses_of hr (by decide) rfl (pa_cons (pv 0) (pa_cons (pv 1) pa_nil))) pa_nil))
      (blkOk_by (own := [("number", 6), ("use", 7)]) (N := N_halves) (sc := defScope s_halves) (by decide +kernel))
      (fun _ _ _ _ _ => (kTup K (n := 2) (pgs_cons (pg_name (i := 6) sc_halves.nd rfl (by first | exact Or.inl rfl | exact Or.inr rfl)) (pgs_cons (pg_name (i := 7) sc_halves.nd rfl (by first | exact Or.inl rfl | exact Or.inr rfl)) pgs_nil)))) (fun _ _ _ _ _ => (pts_one (pt_cmpR op_gt (pv 7) pe_int (nomark _)))) (fun _ _ _ _ _ => (pv 6)))
    (pss_cons (ps_if (pt_cmpR (kNe K hr.units) (pv 3) (pe_lst pa_nil) (nomark _)) (pss_one ps_never) pss_nil)
    (pss_cons (ps_set (i := 4) sc_halves.nd rfl (by first | exact Or.inl rfl | exact Or.inr rfl) (pcall h_sides_of hr (by decide) rfl (pa_cons (pe_lc (own := [("places", 8)]) rfl sc_halves.nd (kWalk K (pv 1))
      (blkOk_by (own := [("places", 8)]) (N := N_halves) (sc := defScope s_halves) (by decide +kernel))
      (fun _ _ _ _ _ => (pg_name (i := 8) sc_halves.nd rfl (by first | exact Or.inl rfl | exact Or.inr rfl))) (fun _ _ _ _ _ => pts_nil) (fun _ _ _ _ _ => (pcall h_roads_into hr (by decide) rfl (pa_cons (pv 0) (pa_cons (pv 8) pa_nil))))) pa_nil)))
    (pss_cons (ps_set (i := 5) sc_halves.nd rfl (by first | exact Or.inl rfl | exact Or.inr rfl) (pe_callTy (kTuple K) (by rfl) B.tuple (by decide +kernel) (pa_cons (pe_lc (own := [("places", 8), ("side", 9)]) rfl sc_halves.nd (kZipM K (by rfl) B.zip (pa_cons (pv 1) (pa_cons (pv 4) pa_nil)))
      (blkOk_by (own := [("places", 8), ("side", 9)]) (N := N_halves) (sc := defScope s_halves) (by decide +kernel))
      (fun _ _ _ _ _ => (kTup K (n := 2) (pgs_cons (pg_name (i := 8) sc_halves.nd rfl (by first | exact Or.inl rfl | exact Or.inr rfl)) (pgs_cons (pg_name (i := 9) sc_halves.nd rfl (by first | exact Or.inl rfl | exact Or.inr rfl)) pgs_nil)))) (fun _ _ _ _ _ => (pts_one (pt_cmpR (kEq K hr.units) (pv 9) pe_int (nomark _)))) (fun _ _ _ _ _ => (pv 8))) pa_nil)))
    (pss_one (ps_ret (pe_tup (pa_cons (pv 5) (pa_cons (pe_callTy (kTuple K) (by rfl) B.tuple (by decide +kernel) (pa_cons (pe_lc (own := [("places", 8), ("side", 9)]) rfl sc_halves.nd (kZipM K (by rfl) B.zip (pa_cons (pv 1) (pa_cons (pv 4) pa_nil)))
      (blkOk_by (own := [("places", 8), ("side", 9)]) (N := N_halves) (sc := defScope s_halves) (by decide +kernel))
      (fun _ _ _ _ _ => (kTup K (n := 2) (pgs_cons (pg_name (i := 8) sc_halves.nd rfl (by first | exact Or.inl rfl | exact Or.inr rfl)) (pgs_cons (pg_name (i := 9) sc_halves.nd rfl (by first | exact Or.inl rfl | exact Or.inr rfl)) pgs_nil)))) (fun _ _ _ _ _ => (pts_one (pt_cmpR (kEq K hr.units) (pv 9) pe_int (nomark _)))) (fun _ _ _ _ _ => (pv 8))) pa_nil)) pa_nil)))))))))))), ?_⟩
  obtain ⟨v1, v2, N, F, rfl, ra, rb, ⟨hn0, hn1, hrl, hl, hro, hF, hcalm, hu⟩, q⟩ := h
  obtain ⟨n, hn⟩ : ∃ n : Nat, N.1 = (n : Int) := ⟨N.1.toNat, by omega⟩
  have eN : N = ((n : Int), N.2) := by rw [← hn]
  have en : N.1.toNat = n := by omega
  have hfl : (F.flatMap (into N.2)).length ≤ 1600 := Nat.le_trans (flat_len fun p _ => into_len N.2 p) (Nat.mul_le_mul hl hrl)
  refine ⟨v1, rfl, v2, rfl, ⟨v1, v2, N, F, rfl, ra, rb, ⟨hl, fun p hp => by rw [eN, cutB_iff, ← en]; exact hF p hp⟩, fun w H1 _ x1 _ _ => ?_⟩⟩
  have ra1 := (dNet C).up x1 ra
  have rb1 := (dT (dT dI)).up x1 rb
  refine k_set (p_call2V (v_many (v_var rfl ra1)) (v_var (e := dU (dT dI)) rfl (.inr rb1)) ⟨hn0, by omega, fun p hp => ⟨(hF p hp).asc, by have := (hF p hp).lt; omega⟩⟩) fun v3 H2 o x2 ro ho => ?_
  have ho' : o = none := by
    cases o with
    | none => rfl
    | some ij =>
      obtain ⟨i, j, p, r, _, hij, hi, hj, hc⟩ := ho
      obtain ⟨hi1, ei⟩ := List.getElem?_eq_some_iff.mp hi
      obtain ⟨hj1, ej⟩ := List.getElem?_eq_some_iff.mp hj
      have := List.pairwise_iff_getElem.mp hcalm i j hi1 hj1 hij
      rw [ei, ej, hc] at this
      exact nomatch this
  subst ho'
  refine k_no (t_notN rfl ro) fun H3 x3 => ?_
  have x13 := x2.trans x3
  refine k_setV (f := dL dI) (y := []) (EvV.is (v_lc (fun a : Int × Int => decide (2 < a.2)) Prod.fst im_I (s_enumT (v_call2 (v_var rfl ((dNet C).up x13 ra1)) (v_var rfl ((dT (dT dI)).up x13 rb1)) ⟨by omega, by omega⟩ fun _ z => z)) ?_ b_pair (fun _ _ _ ⟨_, _, e, _⟩ => by subst e; rfl) ?_ ?_) ?_) fun w4 H4 x4 r4 => ?_
  · rw [enumI_len, usesL_eq, List.length_map, List.length_range]
    show _ ≤ 4000
    omega
  · rintro a _ H4 σ' x4 ⟨y, z, rfl, r1, r2⟩
    exact t_test (v_IB (v_var rfl r2) v_int)
  · rintro a _ H4 H5 σ' x4 ⟨y, z, rfl, r1, r2⟩ x5 _
    exact v_var rfl (dI.up x5 r1)
  · have e : (enumI (usesL N.2 F)).filter (fun a => decide (2 < a.2)) = [] := by
      refine List.filter_eq_nil_iff.mpr fun a ha => ?_
      unfold enumI at ha
      obtain ⟨b, hb, rfl⟩ := List.mem_map.mp ha
      have hb2 : b.1 ∈ usesL N.2 F := by
        have := List.mem_zipIdx' hb
        rw [this.2]
        exact List.getElem_mem _
      rw [usesL_eq] at hb2
      obtain ⟨e, he, e2⟩ := List.mem_map.mp hb2
      have := hu e (List.mem_range.mp he)
      show ¬ (decide (2 < b.1) = true)
      rw [decide_eq_true_eq, ← e2]
      omega
    rw [e]
    rfl
  · refine k_no (EvT.is (t_test (v_ne (encL encI) (v_var rfl r4) v_lst0)) (by rfl)) fun H5 x5 => ?_
    have x15 := (x13.trans x4).trans x5
    refine k_set (p_call1V (a := F.map (into N.2)) (v_lcN (into N.2) (im_T im_I) (s_anyT (v_var rfl ((dT (dT dI)).up x15 rb1))) (dT_len rb) b_name (fun _ _ _ ⟨_, e, _⟩ => by subst e; rfl) ?_) ⟨by rw [List.length_map]; exact hl, col N.1.toNat F, ?_⟩) fun w6 H6 S x6 r6 hS => ?_
    · rintro a _ H6 H7 σ' x6 ⟨y, rfl, r⟩ x7
      exact v_call2 (v_var rfl ((dNet C).up ((x15.trans x6).trans x7) ra1)) (v_var rfl ((dT dI).up x7 r)) trivial fun _ z => z
    · intro i j hi hj hne ha
      rw [List.length_map] at hi hj
      have gi : ∀ k (hk : k < F.length), (F.map (into N.2)).getD k [] = into N.2 (F.getD k []) := fun k hk => by
        rw [List.getD_eq_getElem?_getD, List.getElem?_map, List.getD_eq_getElem?_getD, List.getElem?_eq_getElem hk]
        rfl
      obtain ⟨x, h1, h2⟩ := ha
      rw [gi i hi] at h1
      rw [gi j hj] at h2
      obtain ⟨e1, ex, k1⟩ := into_mem h1
      obtain ⟨e2, ee, k2⟩ := into_mem h2
      have : e1 = e2 := by omega
      subst this
      exact col_apart hro hF hcalm hu hi hj hne k1 k2
    · have x16 := x15.trans x6
      have hSl : S.length = F.length := hS.len.trans (List.length_map _)
      have hzl : (F.zip S).length ≤ lim := by
        rw [List.length_zip]
        show _ ≤ 4000
        omega
      refine k_setV (f := dT (dT dI)) (y := sideOf F S 0) (v_tuple (v_lc (fun z : Pl × Int => decide (z.2 = 0)) Prod.fst (im_T im_I) (s_zipM (v_var rfl ((dT (dT dI)).up x16 rb1)) (v_var rfl r6)) hzl b_pair (fun _ _ _ ⟨_, _, e, _⟩ => by subst e; rfl) ?_ ?_)) fun w7 H7 x7 r7 => ?_
      · rintro a _ H7 σ' x7 ⟨y, z, rfl, r1, r2⟩
        exact t_test (v_eq encI (v_var rfl r2) v_int)
      · rintro a _ H7 H8 σ' x7 ⟨y, z, rfl, r1, r2⟩ x8 _
        exact v_var rfl ((dT dI).up x8 r1)
      · refine k_retV (f := dP (dT (dT dI)) (dT (dT dI))) (y := (sideOf F S 0, sideOf F S 1)) (v_pair (v_var rfl r7) (v_tuple (v_lc (fun z : Pl × Int => decide (z.2 = 1)) Prod.fst (im_T im_I) (s_zipM (v_var rfl ((dT (dT dI)).up (x16.trans x7) rb1)) (v_var rfl ((dL dI).up x7 r6))) hzl b_pair (fun _ _ _ ⟨_, _, e, _⟩ => by subst e; rfl) ?_ ?_))) fun w8 H8 x8 r8 => q w8 H8 _ (((x1.trans x16).trans x7).trans x8) r8 (half_post hS)
        · rintro a _ H8 σ' x8 ⟨y, z, rfl, r1, r2⟩
          exact t_test (v_eq encI (v_var rfl r2) v_int)
        · rintro a _ H8 H9 σ' x8 ⟨y, z, rfl, r1, r2⟩ x9 _
          exact v_var rfl ((dT dI).up x9 r1)
end Ow
-- OwF9
/-! Joins, prices. -/
namespace Ow
open PySem PySem.Spec PyProof.Rows L2 Evl
section
variable {α β γ : Type} {K : PySem.W.Frag} {σ : L2.St} {H H' : Hp} {te ta tb tc : TE} {t u : TT} {e : Rl α} {f : Rl β} {wi : TI} {D : Ends} {tu tz : TS} {l : List α}
/-- a loop over a list while others are written -/
theorem k_forLm {j : Nat} {P : List α → Prop} (h : EvP (dL e) te σ H P) (im : Im e) (k : ∀ l H1 p xs, Ex H H1 → P l → H1 p = some (.lst xs) → AllR e H1 xs l → l.length ≤ lim → ∃ Pv : Nat → L2.St → Hp → Prop, Pv 0 σ H1 ∧ (∀ i σ' H2, Pv i σ' H2 → H2 p = some (.lst xs) ∧ Tx H1 H2) ∧
    (∀ i a x σ' H2, l[i]? = some a → e.r H2 x a → Pv i σ' H2 → tu { D with nx := Pv (i + 1), ct := Pv (i + 1), bk := D.nx } (σ'.set j (some x)) H2) ∧ ∀ σ' H2, Pv l.length σ' H2 → D.nx σ' H2) : tFor (iAny K te) (gName j) tu D σ H := h H (Ex.refl H) _ fun v H1 l x r pl => by
  obtain ⟨p, xs, rfl, hp, hr, hl⟩ := r
  obtain ⟨Pv, h0, hk, hs, hd⟩ := k l H1 p xs x pl hp hr hl
  have el : xs.length = l.length := Paired.length hr
  refine ⟨p, rfl, .inl ⟨⟨xs, sq_of hp⟩, for_list (xs := xs) Pv h0 (fun i σ' H2 _ pv => sq_of (hk i σ' H2 pv).1) (fun i y σ' H2 hi pv => ?_) fun σ' H2 pv => hd σ' H2 (by rw [← el]; exact pv)⟩⟩
  obtain ⟨a, ha, ra⟩ := pd_get hr hi
  exact hs i a y σ' H2 ha (im (hk i σ' H2 pv).2 ra) pv
theorem kq_forLm {j : Nat} {P : List α → Prop} (h : EvP (dL e) te σ H P) (im : Im e) (k : ∀ l H1 p xs, Ex H H1 → P l → H1 p = some (.lst xs) → AllR e H1 xs l → l.length ≤ lim → ∃ Pv : Nat → L2.St → Hp → Prop, Pv 0 σ H1 ∧ (∀ i σ' H2, Pv i σ' H2 → H2 p = some (.lst xs) ∧ Tx H1 H2) ∧
    (∀ i a x σ' H2, l[i]? = some a → e.r H2 x a → Pv i σ' H2 → tu { D with nx := Pv (i + 1), ct := Pv (i + 1), bk := tz D } (σ'.set j (some x)) H2) ∧ ∀ σ' H2, Pv l.length σ' H2 → tz D σ' H2) : tSeq (tFor (iAny K te) (gName j) tu) tz D σ H := k_forLm (D := { D with nx := tz D }) h im k
theorem v_intB {b : Bool} (h : EvV dB ta σ H b) : EvV dI (tCB (fun xs H Q => (∃ i, xs = [.int i] ∧ Q (.int i) H) ∨ ∃ k, xs = [.bl k] ∧ Q (.int (if k then 1 else 0)) H) (tCons ta tNil)) σ H (if b then 1 else 0) := v_cb1 h fun H2 v _ r Q q => .inr ⟨b, by rw [show v = V.bl b from r], q _ H2 (Ex.refl H2) rfl⟩
end
theorem least_one {l : List Int} {a b : Int} (h : IsLeast l a) (h' : IsLeast l b) : a = b := Int.le_antisymm (h.2 b h'.1) (h'.2 a h.1)

abbrev sp_meets_all  : Sp := sp2 (dL (dT dI)) (dT dI) dB (fun _ _ => True) fun R J y => y = R.all fun row => row.any fun t => decide (t ∈ J)
abbrev H_meets_all (P : Program) (w : World) (K : PySem.W.Frag) (mg : Str → Option Value) (base : Heap)  : Prop := FnAt P w K mg base "meets_all" 2 ["rows", "numbers"] sp_meets_all
theorem ok_meets_all {P : Program} {w : World} {K : PySem.W.Frag} {mg : Str → Option Value} {base : Heap}  (D : DefAt K mg "meets_all" s_meets_all) (B : Bts mg) (h_have_common : H_have_common P w K mg base)  : H_meets_all P w K mg base := by
  refine fnAt D sc_meets_all (fun _ _ _ _ _ _ us hl => match us, hl with | [_, _], _ => rfl) sp2_len fun fad cdv A outer s H vs Q E hr h => ⟨_, PSs.nox (pss_one (ps_ret (pe_callB (kAll K) (by rfl) B.all (by decide +kernel) (pa_cons (pe_lc (own := [("row", 2)]) rfl sc_meets_all.nd (kWalk K (pv 0))
      (blkOk_by (own := [("row", 2)]) (N := N_meets_all) (sc := defScope s_meets_all) (by decide +kernel))
      (fun _ _ _ _ _ => (pg_name (i := 2) sc_meets_all.nd rfl (by first | exact Or.inl rfl | exact Or.inr rfl))) (fun _ _ _ _ _ => pts_nil) (fun _ _ _ _ _ => (pcall h_have_common hr (by decide) rfl (pa_cons (pv 2) (pa_cons (pv 1) pa_nil))))) pa_nil)))), ?_⟩
  obtain ⟨v, v2, R, J, rfl, ra, rb, -, q⟩ := h
  refine k_retV (v_all (v_lcN (fun row : List Int => row.any fun t => decide (t ∈ J)) im_B (s_anyL (v_var rfl ra)) (dL_len ra) b_name (fun _ _ _ ⟨_, e, _⟩ => by subst e; rfl) ?_)) fun w H1 x r => q w H1 _ x r ?_
  · rintro a _ H1 H2 σ' x ⟨y, rfl, r⟩ x2
    exact v_call2 (v_var rfl ((dT dI).up x2 r)) (v_var rfl ((dT dI).up (x.trans x2) rb)) trivial fun _ z => z
  · rw [List.all_map]
    rfl

abbrev sp_rows_of (C : Addr) : Sp := sp1 (dNet C) (dL (dT dI)) (fun N => 0 ≤ N.1 ∧ N.1 ≤ 10) fun N y => ∃ l : List Pl, l.Perm (subs N.1.toNat) ∧ y = (l.filter (cutB N)).map (into N.2)
abbrev H_rows_of (P : Program) (w : World) (K : PySem.W.Frag) (mg : Str → Option Value) (base : Heap) (C : Addr) : Prop := FnAt P w K mg base "rows_of" 6 ["net"] (sp_rows_of C)
theorem ok_rows_of {P : Program} {w : World} {K : PySem.W.Frag} {mg : Str → Option Value} {base : Heap} {C : Addr} (D : DefAt K mg "rows_of" s_rows_of) (B : Bts mg) (h_roads_into : H_roads_into P w K mg base C) (h_cuts_of : H_cuts_of P w K mg base C) (NK : NetK P w K mg base C)  : H_rows_of P w K mg base C := by
  refine fnAt D sc_rows_of (fun _ _ _ _ _ _ us hl => match us, hl with | [_], _ => rfl) sp1_len fun fad cdv A outer s H vs Q E hr h => ⟨_, PSs.nox (pss_one (ps_ret (pe_lc (own := [("places", 1)]) rfl sc_rows_of.nd (kWalk K (pcall h_cuts_of hr (by decide) rfl (pa_cons (pv 0) pa_nil)))
      (blkOk_by (own := [("places", 1)]) (N := N_rows_of) (sc := defScope s_rows_of) (by decide +kernel))
      (fun _ _ _ _ _ => (pg_name (i := 1) sc_rows_of.nd rfl (by first | exact Or.inl rfl | exact Or.inr rfl))) (fun _ _ _ _ _ => pts_nil) (fun _ _ _ _ _ => (pcall h_roads_into hr (by decide) rfl (pa_cons (pv 0) (pa_cons (pv 1) pa_nil))))))), ?_⟩
  obtain ⟨v, N, rfl, ra, hN, q⟩ := h
  refine k_ret (p_lc (R := fun y => ∃ l : List Pl, l.Perm (subs N.1.toNat) ∧ y = (l.filter (cutB N)).map (into N.2)) (p_call1V (v_var rfl ra) hN) fun l H1 te' x1 hl hv => ?_) fun w H1 y x r hy => q w H1 y x r hy
  obtain ⟨l0, hp, rfl⟩ := hl
  refine EvV.p (v_lcN (into N.2) (im_T im_I) (s_anyL hv) ?_ b_name (fun _ _ _ ⟨_, e, _⟩ => by subst e; rfl) ?_) ⟨l0, hp, rfl⟩
  · refine Nat.le_trans (List.length_filter_le _ _) ?_
    rw [hp.length_eq, subs_len]
    show _ ≤ 4000
    have h1 : 2 ^ N.1.toNat ≤ 2 ^ 10 := Nat.pow_le_pow_right (by decide) (by omega)
    omega
  · rintro a _ H2 H3 σ' x2 ⟨y, rfl, r⟩ x3
    exact v_call2 (v_var rfl ((dNet C).up ((x1.trans x2).trans x3) ra)) (v_var rfl ((dT dI).up x3 r)) trivial fun _ z => z

def needB (R : List (List Int)) (J : List Int) (x : Int) : Bool := R.any fun row => decide ((J.filter fun t => decide (t ∈ row)) = [x])
abbrev sp_is_needed  : Sp := sp3 (dL (dT dI)) (dT dI) dI dB (fun _ _ _ => True) fun R J x y => y = needB R J x
abbrev H_is_needed (P : Program) (w : World) (K : PySem.W.Frag) (mg : Str → Option Value) (base : Heap)  : Prop := FnAt P w K mg base "is_needed" 1 ["rows", "numbers", "number"] sp_is_needed
theorem ok_is_needed {P : Program} {w : World} {K : PySem.W.Frag} {mg : Str → Option Value} {base : Heap}  (D : DefAt K mg "is_needed" s_is_needed) (B : Bts mg)  : H_is_needed P w K mg base := by
  refine fnAt D sc_is_needed (fun _ _ _ _ _ _ us hl => match us, hl with | [_, _, _], _ => rfl) sp3_len fun fad cdv A outer s H vs Q E hr h => ⟨_, PSs.nox (pss_one (ps_ret (pe_callB (kAny K) (by rfl) B.any (by decide +kernel) (pa_cons (pe_lc (own := [("row", 3)]) rfl sc_is_needed.nd (kWalk K (pv 0))
      (blkOk_by (own := [("row", 3)]) (N := N_is_needed) (sc := defScope s_is_needed) (by decide +kernel))
      (fun _ _ _ _ _ => (pg_name (i := 3) sc_is_needed.nd rfl (by first | exact Or.inl rfl | exact Or.inr rfl))) (fun _ _ _ _ _ => pts_nil) (fun _ _ _ _ _ => (pe_cmpR (kEq K hr.units) (pe_lc (own := [("one", 4)]) rfl sc_is_needed.nd (kWalk K (pv 1))
      (blkOk_by (own := [("one", 4)]) (N := N_is_needed) (sc := _) (by rfl))
      (fun _ _ _ _ _ => (pg_name (i := 4) sc_is_needed.nd rfl (by first | exact Or.inl rfl | exact Or.inr rfl))) (fun _ _ _ _ _ => (pts_one (pt_cmpR (kIn K) (pv 4) (pv 3) (by rfl)))) (fun _ _ _ _ _ => (pv 4))) (pe_lst (pa_cons (pv 2) pa_nil)) (nomark _)))) pa_nil)))), ?_⟩
  obtain ⟨v, v2, v3, R, J, k, rfl, ra, rb, rc, -, q⟩ := h
  refine k_retV (v_any (v_lcN (fun row : List Int => decide ((J.filter fun t => decide (t ∈ row)) = [k])) im_B (s_anyL (v_var rfl ra)) (dL_len ra) b_name (fun _ _ _ ⟨_, e, _⟩ => by subst e; rfl) ?_)) fun w H1 x r => q w H1 _ x r ?_
  · rintro a _ H1 H2 σ' x ⟨y, rfl, r⟩ x2
    have rb2 := (dT dI).up (x.trans x2) rb
    have r2 := (dT dI).up x2 r
    refine v_eq (encL encI) (EvV.is (v_lc (fun t => decide (t ∈ a)) id im_I (s_anyT (v_var rfl rb2)) (dT_len rb2) b_name (fun _ _ _ ⟨_, e, _⟩ => by subst e; rfl) ?_ ?_) (by rw [List.map_id])) (v_lst1 (v_var rfl (dI.up (x.trans x2) rc)))
    · rintro b _ H3 σ' x3 ⟨z, rfl, r3⟩
      exact t_test (v_inT (v_var rfl r3) (v_var rfl ((dT dI).up x3 r2)))
    · rintro b _ H3 H4 σ' x3 ⟨z, rfl, r3⟩ x4 _
      exact v_var rfl (dI.up x4 r3)
  · rw [List.any_map]
    rfl

def joinB (R : List (List Int)) (J : List Int) : Bool := (R.all fun row => row.any fun t => decide (t ∈ J)) && J.all (needB R J)
abbrev sp_joins_of (C : Addr) : Sp := sp1 (dNet C) (dL (dT dI)) (fun N => 0 ≤ N.1 ∧ N.1 ≤ 10 ∧ N.2.length ≤ 10) fun N y => ∃ (l1 : List Pl) (l2 : List (List Int)), l1.Perm (subs N.1.toNat) ∧ l2.Perm (subs N.2.length) ∧ y = l2.filter (joinB ((l1.filter (cutB N)).map (into N.2)))
abbrev H_joins_of (P : Program) (w : World) (K : PySem.W.Frag) (mg : Str → Option Value) (base : Heap) (C : Addr) : Prop := FnAt P w K mg base "joins_of" 7 ["net"] (sp_joins_of C)
theorem ok_joins_of {P : Program} {w : World} {K : PySem.W.Frag} {mg : Str → Option Value} {base : Heap} {C : Addr} (D : DefAt K mg "joins_of" s_joins_of) (B : Bts mg) (h_sets_below : H_sets_below P w K mg base) (h_rows_of : H_rows_of P w K mg base C) (h_meets_all : H_meets_all P w K mg base) (h_is_needed : H_is_needed P w K mg base) (NK : NetK P w K mg base C)  : H_joins_of P w K mg base C := by
  refine fnAt D sc_joins_of (fun _ _ _ _ _ _ us hl => match us, hl with | [_], _ => rfl) sp1_len fun fad cdv A outer s H vs Q E hr h => ⟨_, PSs.nox (pss_cons (ps_asg (pe_tup (pa_cons (pcall h_rows_of hr (by decide) rfl (pa_cons (pv 0) pa_nil)) (pa_cons (pe_lst pa_nil) pa_nil))) (kTup K (n := 2) (pgs_cons (pg_name (i := 1) sc_joins_of.nd rfl (by first | exact Or.inl rfl | exact Or.inr rfl)) (pgs_cons (pg_name (i := 2) sc_joins_of.nd rfl (by first | exact Or.inl rfl | exact Or.inr rfl)) pgs_nil))))
    (pss_cons (ps_for PassesOwn.never rfl (kWalk K (pcall h_sets_below hr (by decide) rfl (pa_cons (pe_callB (kLenN NK.len hr (by decide)) (by rfl) B.len PySem.boot_len (pa_cons (pv 0) pa_nil)) pa_nil))) (pg_name (i := 3) sc_joins_of.nd rfl (by first | exact Or.inl rfl | exact Or.inr rfl))
    (pss_one (ps_if (PW.pt (pw_and (pt_val (pcall h_meets_all hr (by decide) rfl (pa_cons (pv 1) (pa_cons (pv 3) pa_nil)))) (pw_and1 (pt_val (pe_callB (kAll K) (by rfl) B.all (by decide +kernel) (pa_cons (pe_lc (own := [("number", 4)]) rfl sc_joins_of.nd (kWalk K (pv 3))
      (blkOk_by (own := [("number", 4)]) (N := N_joins_of) (sc := defScope s_joins_of) (by decide +kernel))
      (fun _ _ _ _ _ => (pg_name (i := 4) sc_joins_of.nd rfl (by first | exact Or.inl rfl | exact Or.inr rfl))) (fun _ _ _ _ _ => pts_nil) (fun _ _ _ _ _ => (pcall h_is_needed hr (by decide) rfl (pa_cons (pv 1) (pa_cons (pv 3) (pa_cons (pv 4) pa_nil)))))) pa_nil)))))) (pss_one (ps_expr (pe_bm PySem.F.plainAttrs_list PySem.F.slot_list_append PySem.F.type_list_append mt_append (pv 2) (pa_cons (pv 3) pa_nil)))) pss_nil)))
    (pss_one (ps_ret (pv 2))))), ?_⟩
  obtain ⟨v, N, rfl, ra, ⟨hN0, hN1, hrl⟩, q⟩ := h
  refine ⟨v, rfl, v, N, rfl, ra, ⟨hN0, hN1⟩, fun w1 H1 R x1 r1 hR => ?_⟩
  obtain ⟨l1, hl1, rfl⟩ := hR
  refine ⟨Nat.zero_le _, fun pf hpf => ⟨by show 2 ≤ sizeLine; decide, fun pt hpt => ⟨pt, [w1, .ref pf], rfl, st_of upd_same, rfl, w1, [.ref pf], rfl, .ref pf, [], rfl, rfl, ?_⟩⟩⟩
  have hne : pf ≠ pt := fun z => by
    rw [← z, upd_same] at hpt
    cases hpt
  have x2 : Ex H1 (upd (upd H1 pf (.lst [])) pt (.tup [w1, .ref pf])) := (Ex.new hpf).trans (Ex.new hpt)
  have hf2 : upd (upd H1 pf (.lst [])) pt (.tup [w1, .ref pf]) pf = some (.lst []) := by rw [upd_ne hne]; exact upd_same
  refine kq_forLm (p_call1V (v_lenN (v_var rfl ((dNet C).up (x1.trans x2) ra))) ⟨by omega, by omega⟩) (im_T im_I) fun l H3 p xs x3 hl hp hr hll => ?_
  rw [Int.toNat_natCast] at hl
  have hpl : p ≠ pf := fun z => by
    have h1 := x3 _ _ hf2
    rw [← z, hp] at h1
    cases h1
    have h2 := Paired.length hr
    rw [hl.length_eq, subs_len] at h2
    have : 0 < 2 ^ N.2.length := Nat.pow_pos (by decide)
    simp at h2
    omega
  refine ⟨fun i σ' H4 => H4 p = some (.lst xs) ∧ Tx H3 H4 ∧ Ex H1 H4 ∧ ∃ o3 fx, σ' = [some v, some w1, some (.ref pf), o3, none] ∧ H4 pf = some (.lst fx) ∧ AllR (dT dI) H4 fx ((l.take i).filter (joinB ((l1.filter (cutB N)).map (into N.2)))), ⟨hp, Tx.refl H3, x2.trans x3, none, [], rfl, x3 _ _ hf2, by rw [List.take_zero]; exact .nil⟩, fun i σ' H4 h => ⟨h.1, h.2.1⟩, fun i a x σ' H4 ha hra hpv => ?_, fun σ' H4 hpv => ?_⟩
  · obtain ⟨a1, a2, a3, o3, fx, rfl, a4, a5⟩ := hpv
    have et : l.take (i + 1) = l.take i ++ [a] := by
      rw [List.take_add_one, ha]
      rfl
    have rR := (dL (dT dI)).up a3 r1
    refine k_when (b := joinB ((l1.filter (cutB N)).map (into N.2)) a) (et_and (t_B (v_call2 (v_var rfl rR) (v_var rfl hra) trivial fun _ z => z)) fun _ => t_B (EvV.is (v_all (v_lcN (needB ((l1.filter (cutB N)).map (into N.2)) a) im_B (s_anyT (v_var rfl hra)) (dT_len hra) b_name (fun _ _ _ ⟨_, e, _⟩ => by subst e; rfl) ?_)) ?_)) (fun hb H5 x5 => ?_) fun hb H5 x5 => ?_
    · rintro b _ H5 H6 σ' x5 ⟨y, rfl, r⟩ x6
      exact v_call3 (v_var rfl ((dL (dT dI)).up (x5.trans x6) rR)) (v_var rfl ((dT dI).up (x5.trans x6) hra)) (v_var rfl (dI.up x6 r)) trivial fun _ z => z
    · rw [List.all_map]
      rfl
    · have hfl : fx.length ≤ 4000 := by
        rw [Paired.length a5]
        exact Nat.le_trans (List.length_filter_le _ _) (Nat.le_trans (by rw [List.length_take]; omega) hll)
      refine k_app (f := dT dI) (b := a) rfl (x5 _ _ a4) (by omega) (v_var rfl ((dT dI).up x5 hra)) fun w5 H6 x6 r6 => ?_
      have hp6 : H6 pf = some (.lst fx) := x6 _ _ (x5 _ _ a4)
      have t6 : Tx H6 (upd H6 pf (.lst (fx ++ [w5]))) := Tx.upd hp6
      refine ⟨by rw [upd_ne hpl]; exact x6 _ _ (x5 _ _ a1), (a2.trans (Tx.of (x5.trans x6))).trans t6, Ex.mut (a3.trans (x5.trans x6)) hpf, _, fx ++ [w5], rfl, upd_same, ?_⟩
      rw [et, List.filter_append, List.filter_cons, if_pos hb]
      exact pd_app (AllR.im (im_T im_I) ((Tx.of (x5.trans x6)).trans t6) a5) (.cons (im_T im_I t6 r6) .nil)
    · refine ⟨x5 _ _ a1, a2.trans (Tx.of x5), a3.trans x5, _, fx, rfl, x5 _ _ a4, ?_⟩
      rw [et, List.filter_append, List.filter_cons, if_neg (by rw [hb]; simp), List.filter_nil, List.append_nil]
      exact AllR.up x5 a5
  · obtain ⟨a1, a2, a3, o3, fx, rfl, a4, a5⟩ := hpv
    rw [List.take_length] at a5
    refine k_retV (f := dL (dT dI)) (y := l.filter (joinB ((l1.filter (cutB N)).map (into N.2)))) (v_var rfl ⟨pf, fx, rfl, a4, a5, Nat.le_trans (List.length_filter_le _ _) hll⟩) fun w H5 x5 r5 => q w H5 _ ((x1.trans a3).trans x5) r5 ⟨l1, l, hl1, hl, rfl⟩

def priL (J : List Int) (W : List Int) : Int := (J.map fun x => W.getD x.toNat 0).sum
abbrev sp_price_of  : Sp := sp2 (dT dI) (dL dI) dI (fun J W => ∀ x, x ∈ J → 0 ≤ x ∧ x < (W.length : Int)) fun J W y => y = priL J W
abbrev H_price_of (P : Program) (w : World) (K : PySem.W.Frag) (mg : Str → Option Value) (base : Heap)  : Prop := FnAt P w K mg base "price_of" 1 ["numbers", "prices"] sp_price_of
theorem ok_price_of {P : Program} {w : World} {K : PySem.W.Frag} {mg : Str → Option Value} {base : Heap}  (D : DefAt K mg "price_of" s_price_of) (B : Bts mg)  : H_price_of P w K mg base := by
  refine fnAt D sc_price_of (fun _ _ _ _ _ _ us hl => match us, hl with | [_, _], _ => rfl) sp2_len fun fad cdv A outer s H vs Q E hr h => ⟨_, PSs.nox (pss_one (ps_ret (pe_callB (kSum K) (by rfl) B.sum (by decide +kernel) (pa_cons (pe_lc (own := [("number", 2)]) rfl sc_price_of.nd (kWalk K (pv 0))
      (blkOk_by (own := [("number", 2)]) (N := N_price_of) (sc := defScope s_price_of) (by decide +kernel))
      (fun _ _ _ _ _ => (pg_name (i := 2) sc_price_of.nd rfl (by first | exact Or.inl rfl | exact Or.inr rfl))) (fun _ _ _ _ _ => pts_nil) (fun _ _ _ _ _ => (pe_ix (kIx K) (pv 1) (pv 2) (fun _ _ => rfl)))) pa_nil)))), ?_⟩
  obtain ⟨v, v2, J, W, rfl, ra, rb, hr, q⟩ := h
  refine k_retV (v_sum (v_lcN (fun x : Int => W.getD x.toNat 0) im_I (s_anyT (v_var rfl ra)) (dT_len ra) b_name (fun _ _ _ ⟨_, e, _⟩ => by subst e; rfl) ?_)) fun w H1 x r => q w H1 _ x r rfl
  rintro a ha H1 H2 σ' x ⟨y, rfl, r⟩ x2
  have h := hr a ha
  refine v_ixL (v_var rfl ((dL dI).up (x.trans x2) rb)) (v_var rfl (dI.up x2 r)) h.1 ?_
  rw [List.getD_eq_getElem?_getD, List.getElem?_eq_getElem (by omega)]
  rfl

abbrev sp_least_price  : Sp := sp2 (dL (dT dI)) (dL dI) dI (fun Js W => Js ≠ [] ∧ ∀ J, J ∈ Js → ∀ x, x ∈ J → 0 ≤ x ∧ x < (W.length : Int)) fun Js W y => IsLeast (Js.map fun J => priL J W) y
abbrev H_least_price (P : Program) (w : World) (K : PySem.W.Frag) (mg : Str → Option Value) (base : Heap)  : Prop := FnAt P w K mg base "least_price" 2 ["some", "prices"] sp_least_price
theorem ok_least_price {P : Program} {w : World} {K : PySem.W.Frag} {mg : Str → Option Value} {base : Heap}  (D : DefAt K mg "least_price" s_least_price) (B : Bts mg) (h_price_of : H_price_of P w K mg base)  : H_least_price P w K mg base := by
  refine fnAt D sc_least_price (fun _ _ _ _ _ _ us hl => match us, hl with | [_, _], _ => rfl) sp2_len fun fad cdv A outer s H vs Q E hr h => ⟨_, PSs.nox (pss_one (ps_ret (pe_callB (kMin K hr.units) (by rfl) B.min (by decide +kernel) (pa_cons (pe_lc (own := [("numbers", 2)]) rfl sc_least_price.nd (kWalk K (pv 0))
      (blkOk_by (own := [("numbers", 2)]) (N := N_least_price) (sc := defScope s_least_price) (by decide +kernel))
      (fun _ _ _ _ _ => (pg_name (i := 2) sc_least_price.nd rfl (by first | exact Or.inl rfl | exact Or.inr rfl))) (fun _ _ _ _ _ => pts_nil) (fun _ _ _ _ _ => (pcall h_price_of hr (by decide) rfl (pa_cons (pv 2) (pa_cons (pv 1) pa_nil))))) pa_nil)))), ?_⟩
  obtain ⟨v, v2, Js, W, rfl, ra, rb, ⟨hne, hr⟩, q⟩ := h
  refine k_ret (p_minL (v_lcN (fun J : List Int => priL J W) im_I (s_anyL (v_var rfl ra)) (dL_len ra) b_name (fun _ _ _ ⟨_, e, _⟩ => by subst e; rfl) ?_) (by rw [List.length_map]; exact List.length_pos_iff.mpr hne)) fun w H1 y x r hy => q w H1 y x r hy
  rintro a ha H1 H2 σ' x ⟨y, rfl, r⟩ x2
  exact v_call2 (v_var rfl ((dT dI).up x2 r)) (v_var rfl ((dL dI).up (x.trans x2) rb)) (hr a ha) fun _ z => z
end Ow
-- OwF10
/-! packing, apart. -/
namespace Ow
open PySem PySem.Spec PyProof.Rows L2 Evl

/-- a net as the law makes it -/
structure NetOk (N : NetD) : Prop where
  n2 : 2 ≤ N.1
  n6 : N.1 ≤ 6
  r1 : 1 ≤ N.2.length
  r7 : N.2.length ≤ 7
  ro : RoadsOk N.1.toNat N.2
  cn : Conn N.1.toNat N.2
theorem into_hit {rs : List Road} {p : Pl} {e : Nat} (h : hit rs p e = true) : (e : Int) ∈ into rs p := by
  refine List.count_pos_iff.mp ?_
  rw [into_count, h]
  decide
theorem into_iff {rs : List Road} {p : Pl} {e : Nat} : (e : Int) ∈ into rs p ↔ hit rs p e = true := ⟨fun h => by
  obtain ⟨e', he, h'⟩ := into_mem h
  have : e = e' := by omega
  rw [this]
  exact h', into_hit⟩
theorem mem_cuts {n : Nat} {rs : List Road} {l : List Pl} (hl : l.Perm (subs n)) (p : Pl) : p ∈ l.filter (cutB ((n : Int), rs)) ↔ IsCut n rs p := by
  rw [List.mem_filter, cutB_iff]
  exact ⟨fun h => h.2, fun h => ⟨hl.mem_iff.mpr (subs_all h.asc h.rng), h⟩⟩
theorem mem_joins {n : Nat} {rs : List Road} {l1 : List Pl} {l2 : List (List Int)} (h1 : l1.Perm (subs n)) (h2 : l2.Perm (subs rs.length)) (J : List Int) : J ∈ l2.filter (joinB ((l1.filter (cutB ((n : Int), rs))).map (into rs))) ↔ MinJ n rs J := by
  have hrow : ∀ P : List Int → Prop, (∀ row, row ∈ (l1.filter (cutB ((n : Int), rs))).map (into rs) → P row) ↔ ∀ p, IsCut n rs p → P (into rs p) := fun P => by
    constructor
    · intro h p hp
      exact h _ (List.mem_map.mpr ⟨p, (mem_cuts h1 p).mpr hp, rfl⟩)
    · rintro h row hr
      obtain ⟨p, hp, rfl⟩ := List.mem_map.mp hr
      exact h p ((mem_cuts h1 p).mp hp)
  rw [List.mem_filter, h2.mem_iff]
  unfold joinB
  rw [Bool.and_eq_true, List.all_eq_true, List.all_eq_true]
  constructor
  · rintro ⟨hs, hm, hn⟩
    obtain ⟨ha, hr⟩ := subs_in hs
    have hm2 := (hrow fun row => (row.any fun t => decide (t ∈ J)) = true).mp hm
    refine ⟨ha, hr, fun p hp => ?_, fun x hx => ?_⟩
    · obtain ⟨x, hx, hxJ⟩ := List.any_eq_true.mp (hm2 p hp)
      obtain ⟨e, rfl, hh⟩ := into_mem hx
      exact ⟨e, of_decide_eq_true hxJ, hh⟩
    · have h3 := hn x hx
      unfold needB at h3
      obtain ⟨row, hrw, h4⟩ := List.any_eq_true.mp h3
      obtain ⟨p, hp, rfl⟩ := List.mem_map.mp hrw
      have h4 := of_decide_eq_true h4
      refine ⟨p, (mem_cuts h1 p).mp hp, fun y hy => ?_⟩
      have h5 : y ∈ J.filter (fun t => decide (t ∈ into rs p)) ↔ y = x := by rw [h4, List.mem_singleton]
      rw [List.mem_filter, decide_eq_true_eq] at h5
      have h6 := (hr y hy).1
      have h7 : (y.toNat : Int) = y := Int.toNat_of_nonneg h6
      rw [← into_iff, h7]
      exact ⟨fun h => h5.mp ⟨hy, h⟩, fun h => (h5.mpr h).2⟩
  · intro h
    refine ⟨subs_all h.asc h.rng, (hrow fun row => (row.any fun t => decide (t ∈ J)) = true).mpr fun p hp => ?_, fun x hx => ?_⟩
    · obtain ⟨e, he, hh⟩ := h.meets p hp
      exact List.any_eq_true.mpr ⟨(e : Int), into_hit hh, decide_eq_true he⟩
    · obtain ⟨p, hp, hy⟩ := h.needed x hx
      unfold needB
      refine List.any_eq_true.mpr ⟨into rs p, List.mem_map.mpr ⟨p, (mem_cuts h1 p).mpr hp, rfl⟩, decide_eq_true ?_⟩
      refine asc_eq (List.Pairwise.filter _ h.asc) (List.pairwise_singleton _ _) fun y => ?_
      rw [List.mem_filter, decide_eq_true_eq, List.mem_singleton]
      constructor
      · rintro ⟨hyJ, hyi⟩
        have h7 : (y.toNat : Int) = y := Int.toNat_of_nonneg (h.rng y hyJ).1
        rw [← h7, into_iff] at hyi
        exact (hy y hyJ).mp hyi
      · rintro rfl
        have h7 : (y.toNat : Int) = y := Int.toNat_of_nonneg (h.rng y hx).1
        exact ⟨hx, by rw [← h7, into_iff]; exact (hy y hx).mpr rfl⟩

/-! ### weights -/
def wN (W : List Int) : Nat → Nat := fun e => (W.getD e 0).toNat
abbrev NN (W : List Int) : Prop := ∀ x, x ∈ W → 0 ≤ x
theorem getD_nn {W : List Int} (h : NN W) (e : Nat) : 0 ≤ W.getD e 0 := by
  rw [List.getD_eq_getElem?_getD]
  cases q : W[e]? with
  | none => exact Int.le_refl _
  | some x => exact h x (List.mem_of_getElem? q)
theorem priL_eq {W : List Int} (h : NN W) : ∀ J : List Int, priL J W = (pri (wN W) J : Int)
  | [] => rfl
  | x :: J => by
    have ih := priL_eq h J
    unfold priL pri at ih ⊢
    rw [List.map_cons, List.map_cons, List.sum_cons, List.sum_cons, ih]
    have := getD_nn h x.toNat
    unfold wN
    omega
theorem least_nu {n : Nat} {rs : List Road} {c : Conn n rs} (ro : RoadsOk n rs) {W : List Int} (h : NN W) {Js : List (List Int)} (hJ : ∀ J, J ∈ Js ↔ MinJ n rs J) {k : Nat} (hk : IsNu c (wN W) k) {y : Int} (hy : IsLeast (Js.map fun J => priL J W) y) : y = (k : Int) := by
  obtain ⟨⟨J, hJm, hJk⟩, hlo⟩ := lp_nu ro hk
  refine least_one hy ⟨List.mem_map.mpr ⟨J, (hJ J).mpr hJm, by rw [priL_eq h, hJk]⟩, fun z hz => ?_⟩
  obtain ⟨J', hJ', rfl⟩ := List.mem_map.mp hz
  rw [priL_eq h]
  have := hlo J' ((hJ J').mp hJ')
  omega
theorem joins_ne {n : Nat} {rs : List Road} {c : Conn n rs} (ro : RoadsOk n rs) {Js : List (List Int)} (hJ : ∀ J, J ∈ Js ↔ MinJ n rs J) : Js ≠ [] := by
  obtain ⟨k, hk⟩ := nu_ex c fun _ => 1
  obtain ⟨⟨J, hJm, _⟩, _⟩ := lp_nu ro hk
  intro h
  have := (hJ J).mpr hJm
  rw [h] at this
  cases this
/-- the prices behind a cut more -/
def later (W row : List Int) : List Int := (enumI W).map fun a => a.2 - (if decide (a.1 ∈ row) = true then 1 else 0)
theorem later_len (W row : List Int) : (later W row).length = W.length := by
  unfold later
  rw [List.length_map, enumI_len]
theorem later_get {rs : List Road} {p : Pl} {W : List Int} {e : Nat} (he : e < W.length) : (later W (into rs p)).getD e 0 = W.getD e 0 - ((hit rs p e).toNat : Int) := by
  unfold later
  rw [List.getD_eq_getElem?_getD, List.getElem?_map, enumI_get (List.getElem?_eq_getElem he), List.getD_eq_getElem?_getD, List.getElem?_eq_getElem he]
  show W[e] - _ = W[e] - _
  cases hh : hit rs p e with
  | true =>
    rw [if_pos (decide_eq_true (into_hit hh))]
    rfl
  | false =>
    rw [if_neg]
    · rfl
    · rw [decide_eq_true_eq, into_iff, hh]
      exact Bool.false_ne_true
theorem later_legal {rs : List Road} {p : Pl} {W : List Int} (h : NN W) (hl : W.length = rs.length) : Legal rs (wN W) p ↔ NN (later W (into rs p)) := by
  constructor
  · intro l x hx
    obtain ⟨e, he, rfl⟩ := List.getElem_of_mem hx
    rw [later_len] at he
    have h1 := later_get (rs := rs) (p := p) he
    rw [List.getD_eq_getElem?_getD, List.getElem?_eq_getElem (by rw [later_len]; exact he)] at h1
    have h2 := l e (by omega)
    unfold wN at h2
    have h3 := getD_nn h e
    have h1 : (later W (into rs p))[e]'(by rw [later_len]; exact he) = W.getD e 0 - ((hit rs p e).toNat : Int) := h1
    rw [h1]
    omega
  · intro hn e he
    have h1 := later_get (rs := rs) (p := p) (W := W) (e := e) (by omega)
    have h2 := getD_nn hn e
    unfold wN
    have h3 := getD_nn h e
    omega
theorem later_less {rs : List Road} {p : Pl} {W : List Int} (h : NN W) (hl : W.length = rs.length) (l : Legal rs (wN W) p) : wN (later W (into rs p)) = less rs (wN W) p := funext fun e => by
  unfold less
  by_cases he : e < W.length
  · show ((later W (into rs p)).getD e 0).toNat = _
    rw [later_get he]
    unfold wN
    have h3 := getD_nn h e
    omega
  · have e1 : ∀ V : List Int, V.length = W.length → wN V e = 0 := fun V hV => by
      unfold wN
      rw [List.getD_eq_getElem?_getD, List.getElem?_eq_none (by omega)]
      rfl
    rw [e1 _ (later_len W _), e1 W rfl]
    omega
theorem gr_len {n : Nat} {rs : List Road} {c : Conn n rs} {fam : List Pl} {w : Nat → Nat} (g : Gr c (fun _ => 1) fam w) : fam.length ≤ rs.length := by
  have h1 : PkN (hyg n rs c) (fun _ => 1) fam.length := ⟨fam, ⟨g.cuts, fun e he => by
    have := g.rest e he
    show List.countP (fun q => hit rs q e) fam ≤ 1
    have h2 : w e + List.countP (fun q => hit rs q e) fam = 1 := this
    omega⟩, rfl⟩
  have h2 := h1.bound
  have e1 : sumN (fun _ => 1) (hyg n rs c).m = rs.length := by
    show sumN (fun _ => 1) rs.length = rs.length
    generalize rs.length = m
    induction m with
    | zero => rfl
    | succ m ih =>
      show sumN (fun _ => 1) m + 1 = m + 1
      rw [ih]
  omega
theorem sum_less {n : Nat} {rs : List Road} {c : Conn n rs} {w : Nat → Nat} {p : Pl} (hp : IsCut n rs p) (l : Legal rs w p) : sumN (less rs w p) rs.length < sumN w rs.length := by
  obtain ⟨e, he, hh⟩ := cut_hit c hp
  refine sumN_lt (fun e _ => Nat.sub_le _ _) ⟨e, he, ?_⟩
  have h1 := l e he
  unfold less
  rw [hh] at h1 ⊢
  have : (true : Bool).toNat = 1 := rfl
  omega

abbrev sp_packing (C : Addr) : Sp := sp2 (dNet C) (dL dI) (dT (dT dI)) (fun N W => NetOk N ∧ W = List.replicate N.2.length 1) fun N W y => Best N.1.toNat N.2 y
abbrev H_packing (P : Program) (w : World) (K : PySem.W.Frag) (mg : Str → Option Value) (base : Heap) (C : Addr) : Prop := FnAt P w K mg base "packing" 8 ["net", "prices"] (sp_packing C)
theorem ok_packing {P : Program} {w : World} {K : PySem.W.Frag} {mg : Str → Option Value} {base : Heap} {C : Addr} (D : DefAt K mg "packing" s_packing) (B : Bts mg) (h_cuts_of : H_cuts_of P w K mg base C) (h_joins_of : H_joins_of P w K mg base C) (h_roads_into : H_roads_into P w K mg base C) (h_least_price : H_least_price P w K mg base) (NK : NetK P w K mg base C)  : H_packing P w K mg base C := by
  refine fnAt D sc_packing (fun _ _ _ _ _ _ us hl => match us, hl with | [_, _], _ => rfl) sp2_len fun fad cdv A outer s H vs Q E hr h => ⟨_, PSs.nox (pss_cons (ps_par3 (i := 2) (j := 3) (l := 4) (by rfl) sc_packing.nd rfl rfl rfl (by decide) (by decide) (by decide) rfl rfl rfl (pa_cons (pcall h_joins_of hr (by decide) rfl (pa_cons (pv 0) pa_nil)) (pa_cons (pe_lst pa_nil) (pa_cons (pe_callTy (kList K) (by rfl) B.list (by decide +kernel) (pa_cons (pv 1) pa_nil)) pa_nil))) (by rfl))
    (pss_cons (ps_for PassesOwn.never rfl (kWalk K (pcall h_cuts_of hr (by decide) rfl (pa_cons (pv 0) pa_nil))) (pg_name (i := 5) sc_packing.nd rfl (by first | exact Or.inl rfl | exact Or.inr rfl))
    (pss_cons (ps_asg (pe_tup (pa_cons (pcall h_roads_into hr (by decide) rfl (pa_cons (pv 0) (pa_cons (pv 5) pa_nil))) (pa_cons pe_bl pa_nil))) (kTup K (n := 2) (pgs_cons (pg_name (i := 6) sc_packing.nd rfl (by first | exact Or.inl rfl | exact Or.inr rfl)) (pgs_cons (pg_name (i := 7) sc_packing.nd rfl (by first | exact Or.inl rfl | exact Or.inr rfl)) pgs_nil))))
    (pss_one (ps_while PassesOwn.never (pt_not (pt_val (pv 7))) (pss_cons (ps_setLc (i := 8) (own := [("number", 9), ("price", 10)]) rfl sc_packing.nd rfl rfl (sw_true rfl rfl rfl (by decide +kernel)) (kEnumL K (by rfl) B.enumerate (pa_cons (pv 4) pa_nil))
      (blkOk_by (own := [("number", 9), ("price", 10)]) (N := N_packing) (sc := defScope s_packing) (by decide +kernel))
      (fun _ _ _ _ _ => (kTup K (n := 2) (pgs_cons (pg_name (i := 9) sc_packing.nd rfl (by first | exact Or.inl rfl | exact Or.inr rfl)) (pgs_cons (pg_name (i := 10) sc_packing.nd rfl (by first | exact Or.inl rfl | exact Or.inr rfl)) pgs_nil)))) (fun _ _ _ _ _ => pts_nil) (fun _ _ _ _ _ => (pe_op op_sub (pv 10) (pe_callTy call_int1 (by rfl) B.int (by decide +kernel) (pa_cons (pe_cmpR (kIn K) (pv 9) (pv 6) (by rfl)) pa_nil)))))
    (pss_cons (ps_set (i := 7) sc_packing.nd rfl (by first | exact Or.inl rfl | exact Or.inr rfl) (pe_or (pe_cmpR op_lt (pe_callB (kMin K hr.units) (by rfl) B.min (by decide +kernel) (pa_cons (pv 8) pa_nil)) pe_int (nomark _)) (pe_one (pe_cmpR op_lt (pcall h_least_price hr (by decide) rfl (pa_cons (pv 2) (pa_cons (pv 8) pa_nil))) (pe_op op_sub (pcall h_least_price hr (by decide) rfl (pa_cons (pv 2) (pa_cons (pv 4) pa_nil))) pe_int) (nomark _)))))
    (pss_one (ps_if (pt_not (pt_val (pv 7))) (pss_cons (ps_expr (pe_bm PySem.F.plainAttrs_list PySem.F.slot_list_append PySem.F.type_list_append mt_append (pv 3) (pa_cons (pv 5) pa_nil)))
    (pss_one (ps_set (i := 4) sc_packing.nd rfl (by first | exact Or.inl rfl | exact Or.inr rfl) (pv 8)))) pss_nil))))))))
    (pss_one (ps_ret (pe_callTy (kTuple K) (by rfl) B.tuple (by decide +kernel) (pa_cons (pv 3) pa_nil)))))), ?_⟩
  obtain ⟨v0, v1, N, W0, rfl, ra, rb, ⟨hN, hW0⟩, q⟩ := h
  obtain ⟨n, hn⟩ : ∃ n : Nat, N.1 = (n : Int) := ⟨N.1.toNat, by have := hN.n2; omega⟩
  have eN : N = ((n : Int), N.2) := by rw [← hn]
  have en : N.1.toNat = n := by omega
  have hn2 := hN.n2
  have hn6 := hN.n6
  have hr1 := hN.r1
  have hr7 := hN.r7
  have ro : RoadsOk n N.2 := by rw [← en]; exact hN.ro
  have c : Conn n N.2 := by rw [← en]; exact hN.cn
  refine ⟨v0, rfl, v0, N, rfl, ra, ⟨by omega, by omega, by omega⟩, fun vS H1 Js x1 rJ hJs => ?_⟩
  obtain ⟨l1, l2, hl1, hl2, hJs⟩ := hJs
  rw [en] at hl1
  have hJ : ∀ J, J ∈ Js ↔ MinJ n N.2 J := fun J => by
    rw [hJs, eN]
    exact mem_joins hl1 hl2 J
  refine ⟨Nat.zero_le _, fun pF hpF => ?_⟩
  have x2 : Ex H1 (upd H1 pF (.lst [])) := Ex.new hpF
  refine n_listL (v_var rfl ((dL dI).up (x1.trans x2) rb)) _ (Ex.refl _) _ fun pR H2 xsR W hpR x3 hR rR _ hW => ?_
  have hW := hW.symm
  subst hW
  have rR := allI rR
  subst rR
  have hRF : pR ≠ pF := fun z => by
    rw [z, upd_same] at hpR
    cases hpR
  have hF2 : H2 pF = some (.lst []) := x3 _ _ upd_same
  refine ⟨vS, .ref pF, .ref pR, rfl, ?_⟩
  have hWl : W0.length = N.2.length := by rw [hW0, List.length_replicate]
  have hWn : NN W0 := fun x hx => by
    rw [hW0] at hx
    rw [(List.mem_replicate.mp hx).2]
    decide
  have hw0 : ∀ e, e < N.2.length → wN W0 e = 1 := fun e he => by
    unfold wN
    rw [hW0, List.getD_eq_getElem?_getD, List.getElem?_replicate, if_pos he]
    rfl
  have g0 : Gr c (fun _ => 1) [] (wN W0) := ⟨fun p h => (nomatch h), fun e he => hw0 e he, fun k k0 h h0 => by
    have e1 : ∀ F : List Pl, Pk (hyg n N.2 c) (wN W0) F ↔ Pk (hyg n N.2 c) (fun _ => 1) F := fun F => ⟨fun h => h.mono fun e he => Nat.le_of_eq (hw0 e he), fun h => h.mono fun e he => Nat.le_of_eq (hw0 e he).symm⟩
    have e2 : ∀ j, PkN (hyg n N.2 c) (wN W0) j ↔ PkN (hyg n N.2 c) (fun _ => 1) j := fun j => ⟨fun ⟨F, a, b⟩ => ⟨F, (e1 F).mp a, b⟩, fun ⟨F, a, b⟩ => ⟨F, (e1 F).mpr a, b⟩⟩
    have a1 := nu_le ((e2 k).mp h.1) h0
    have a2 := nu_le ((e2 k0).mpr h0.1) h
    show 0 + k = k0
    omega⟩
  refine kq_forLm (p_call1V (v_var rfl ((dNet C).up ((x1.trans x2).trans x3) ra)) ⟨by omega, by omega⟩) (im_T im_I) fun l H3 p xs x4 hl hp hr hll => ?_
  obtain ⟨l0, hl0, hl⟩ := hl
  rw [en] at hl0
  have hmem : ∀ a, a ∈ l ↔ IsCut n N.2 a := fun a => by
    rw [hl, eN]
    exact mem_cuts hl0 a
  have hpF2 : l ≠ [] → p ≠ pF := fun hne z => by
    have h1 := x4 _ _ hF2
    rw [← z, hp] at h1
    cases h1
    have h2 := Paired.length hr
    exact hne (List.eq_nil_of_length_eq_zero h2.symm)
  refine ⟨fun i σ' H4 => H4 p = some (.lst xs) ∧ Tx H3 H4 ∧ Ex H1 H4 ∧ ∃ fam fx pR W o5 o6 o7 o8, σ' = [some v0, some v1, some vS, some (.ref pF), some (.ref pR), o5, o6, o7, o8, none, none] ∧ H4 pF = some (.lst fx) ∧ AllR (dT dI) H4 fx fam ∧ pR ≠ pF ∧ H4 pR = some (.lst (iS W)) ∧ Gr c (fun _ => 1) fam (wN W) ∧ NN W ∧ W.length = N.2.length ∧ ∀ j a, j < i → l[j]? = some a → Blk c (wN W) a,
    ⟨hp, Tx.refl H3, (x2.trans x3).trans x4, [], [], pR, W0, none, none, none, none, rfl, x4 _ _ hF2, .nil, hRF, x4 _ _ hR, g0, hWn, hWl, fun j a h => absurd h (Nat.not_lt_zero j)⟩, fun i σ' H4 h => ⟨h.1, h.2.1⟩, fun i pl vp σ' H4 ha hrp hpv => ?_, fun σ' H4 hpv => ?_⟩
  · obtain ⟨a1, a2, a3, fam, fx, pR, W, o5, o6, o7, o8, rfl, a4, a5, a6, a7, a8, a9, a10, a11⟩ := hpv
    have hcut : IsCut n N.2 pl := (hmem pl).mp (List.mem_of_getElem? ha)
    have hppF : p ≠ pF := hpF2 fun z => by rw [z] at ha; simp at ha
    refine k_pairV (e := dT dI) (f := dB) (y := (into N.2 pl, false)) (v_pair (v_call2 (v_var rfl ((dNet C).up (x1.trans a3) ra)) (v_var rfl hrp) trivial fun _ z => z) v_bl) fun v6 v7 H5 x5 r6 r7 => ?_
    obtain rfl : v7 = V.bl false := r7
    refine s_while (fun m σ' H6 => ∃ b : Bool, ∃ fam fx pR W o8, σ' = [some v0, some v1, some vS, some (.ref pF), some (.ref pR), some vp, some v6, some (.bl b), o8, none, none] ∧ H6 p = some (.lst xs) ∧ Tx H5 H6 ∧ Ex H1 H6 ∧ H6 pF = some (.lst fx) ∧ AllR (dT dI) H6 fx fam ∧ pR ≠ pF ∧ H6 pR = some (.lst (iS W)) ∧ Gr c (fun _ => 1) fam (wN W) ∧ NN W ∧ W.length = N.2.length ∧ (∀ j a, j < i → l[j]? = some a → Blk c (wN W) a) ∧ (b = true → Blk c (wN W) pl) ∧ m = 2 * sumN (wN W) N.2.length + (if b = true then 0 else 1)) _
      ⟨false, fam, fx, pR, W, o8, rfl, x5 _ _ a1, Tx.refl H5, a3.trans x5, x5 _ _ a4, AllR.up x5 a5, a6, x5 _ _ a7, a8, a9, a10, a11, fun h => (nomatch h), rfl⟩ ?_
    rintro m σ' H6 ⟨b, fam, fx, pR, W, o8, rfl, b1, b2, b3, b4, b5, b6, b7, b8, b9, b10, b11, b12, rfl⟩
    refine ⟨!b, et_not (t_B (v_var (e := dB) rfl rfl)), fun hb H7 x7 => ?_, fun hb H7 x7 => ?_⟩
    · have hbf : b = false := by simpa using hb
      subst hbf
      have rW : (dL dI).r H7 (.ref pR) W := ⟨pR, _, rfl, x7 _ _ b7, allI' _ W, by show _ ≤ 4000; omega⟩
      have t7 : Tx H5 H7 := b2.trans (Tx.of x7)
      have r6' : (dT dI).r H7 v6 (into N.2 pl) := im_T im_I t7 r6
      refine ⟨fun σ2 H8 => ∃ b' : Bool, ∃ fam fx pR W' o8, σ2 = [some v0, some v1, some vS, some (.ref pF), some (.ref pR), some vp, some v6, some (.bl b'), o8, none, none] ∧ H8 p = some (.lst xs) ∧ Tx H5 H8 ∧ Ex H1 H8 ∧ H8 pF = some (.lst fx) ∧ AllR (dT dI) H8 fx fam ∧ pR ≠ pF ∧ H8 pR = some (.lst (iS W')) ∧ Gr c (fun _ => 1) fam (wN W') ∧ NN W' ∧ W'.length = N.2.length ∧ (∀ j a, j < i → l[j]? = some a → Blk c (wN W') a) ∧ (b' = true → Blk c (wN W') pl) ∧ 2 * sumN (wN W') N.2.length + (if b' = true then 0 else 1) < 2 * sumN (wN W) N.2.length + 1, ?_, ?_⟩
      · rintro σ2 H8 ⟨b', fam, fx, pR, W', o8, rfl, c1, c2, c3, c4, c5, c6, c7, c8, c9, c10, c11, c12, c13⟩
        exact ⟨_, c13, b', fam, fx, pR, W', o8, rfl, c1, c2, c3, c4, c5, c6, c7, c8, c9, c10, c11, c12, rfl⟩
      · refine k_setN (n_lcN (fun a : Int × Int => a.2 - (if decide (a.1 ∈ into N.2 pl) = true then 1 else 0)) im_I (s_enumL (v_var rfl rW)) (by rw [enumI_len]; show _ ≤ 4000; omega) b_pair (fun _ _ _ ⟨_, _, e, _⟩ => by subst e; rfl) ?_) fun pL H8 xsL L hpL x8 hxL hrL _ hL => ?_
        · rintro a _ H8 H9 σ' x8 ⟨y, z, rfl, r1, r2⟩ x9
          exact v_I0 (v_var rfl (dI.up x9 r2)) (v_intB (v_inT (v_var rfl (dI.up x9 r1)) (v_var rfl ((dT dI).up (x8.trans x9) r6'))))
        · have hL : L = later W (into N.2 pl) := hL
          have hrL := allI hrL
          subst hrL
          have hLF : pL ≠ pF := fun z => by
            rw [z, x7 _ _ b4] at hpL
            cases hpL
          have hLl : L.length = N.2.length := by rw [hL, later_len, b10]
          have rL : (dL dI).r H8 (.ref pL) L := ⟨pL, _, rfl, hxL, allI' _ L, by show _ ≤ 4000; omega⟩
          have rJ8 : (dL (dT dI)).r H8 vS Js := (dL (dT dI)).up (b3.trans (x7.trans x8)) rJ
          obtain ⟨mn, hmn⟩ : ∃ mn, IsLeast L mn := by
            cases hLc : L with
            | nil => rw [hLc] at hLl; simp at hLl; omega
            | cons z zs => exact ⟨_, minOf_least z zs⟩
          obtain ⟨k, hk⟩ := nu_ex c (wN W)
          obtain ⟨k', hk'⟩ := nu_ex c (wN L)
          have hnn : decide (mn < 0) = false ↔ NN L := by
            rw [decide_eq_false_iff_not]
            constructor
            · intro h x hx
              have := hmn.2 x hx
              omega
            · intro h
              have := h mn hmn.1
              omega
          have hrng : ∀ J, J ∈ Js → ∀ x, x ∈ J → 0 ≤ x ∧ x < (N.2.length : Int) := fun J hJm => ((hJ J).mp hJm).rng
          refine k_setV (f := dB) (y := decide (mn < 0) || decide ((k' : Int) < (k : Int) - 1)) (v_or (v_IB ((p_minL (v_var rfl rL) (by omega)).v fun z hz => least_one hz hmn) v_int) fun h0 => v_IB ((p_call2V (v_var rfl rJ8) (v_var rfl rL) ⟨joins_ne (c := c) ro hJ, by rw [hLl]; exact hrng⟩).v fun z hz => least_nu ro (hnn.mp h0) hJ hk' hz) (v_I0 ((p_call2V (v_var rfl rJ8) (v_var rfl ((dL dI).up x8 rW)) ⟨joins_ne (c := c) ro hJ, by rw [b10]; exact hrng⟩).v fun z hz => least_nu ro b9 hJ hk hz) v_int)) fun v7 H9 x9 r7 => ?_
          obtain rfl : v7 = V.bl (decide (mn < 0) || decide ((k' : Int) < (k : Int) - 1)) := r7
          have y9 : Ex H1 H9 := b3.trans ((x7.trans x8).trans x9)
          have t9 : Tx H5 H9 := t7.trans (Tx.of (x8.trans x9))
          have hleg : Legal N.2 (wN W) pl ↔ NN L := by rw [hL]; exact later_legal b9 b10
          refine k_when (b := !(decide (mn < 0) || decide ((k' : Int) < (k : Int) - 1))) (et_not (t_B (v_var (e := dB) rfl rfl))) (fun hb H10 x10 => ?_) fun hb H10 x10 => ?_
          · have hb2 : (decide (mn < 0) || decide ((k' : Int) < (k : Int) - 1)) = false := by simpa using hb
            rw [hb2]
            rw [Bool.or_eq_false_iff] at hb2
            have hNL := hnn.mp hb2.1
            have hlg := hleg.mpr hNL
            have hk2 := of_decide_eq_false hb2.2
            have hwL : wN L = less N.2 (wN W) pl := by rw [hL]; exact later_less b9 b10 hlg
            have hacc : ∀ k1 k1', IsNu c (wN W) k1 → IsNu c (less N.2 (wN W) pl) k1' → k1 ≤ k1' + 1 := fun k1 k1' h1 h2 => by
              rw [← hwL] at h2
              have e1 := nu_le h1.1 hk
              have e2 := nu_le hk'.1 h2
              omega
            have g2 := b8.take hcut hlg hacc
            rw [← hwL] at g2
            have hfl := gr_len b8
            have y10 := y9.trans x10
            refine kq_app (f := dT dI) (b := pl) (xs := fx) rfl (x10 _ _ (x9 _ _ (x8 _ _ (x7 _ _ b4)))) (by rw [Paired.length b5]; omega) (v_var rfl (im_T im_I (t9.trans (Tx.of x10)) ((dT dI).up x5 hrp))) fun w11 H11 x11 r11 => ?_
            have hF11 : H11 pF = some (.lst fx) := x11 _ _ (x10 _ _ (x9 _ _ (x8 _ _ (x7 _ _ b4))))
            have t11 : Tx H11 (upd H11 pF (.lst (fx ++ [w11]))) := Tx.upd hF11
            have hL11 : upd H11 pF (.lst (fx ++ [w11])) pL = some (.lst (iS L)) := by
              rw [upd_ne hLF]
              exact x11 _ _ (x10 _ _ (x9 _ _ hxL))
            refine ⟨.ref pL, rfl, ?_⟩
            refine ⟨false, fam ++ [pl], fx ++ [w11], pL, L, _, rfl, ?_, (t9.trans (Tx.of (x10.trans x11))).trans t11, Ex.mut (y10.trans x11) hpF, upd_same, ?_, hLF, hL11, g2, hNL, hLl, fun j a hj ha' => ?_, fun h => (nomatch h), ?_⟩
            · rw [upd_ne hppF]
              exact x11 _ _ (x10 _ _ (x9 _ _ (x8 _ _ (x7 _ _ b1))))
            · exact pd_app (AllR.im (im_T im_I) ((Tx.of (((x7.trans x8).trans (x9.trans x10)).trans x11)).trans t11) b5) (.cons (im_T im_I t11 r11) .nil)
            · rw [hwL]
              exact blk_less ((hmem a).mp (List.mem_of_getElem? ha')) hcut hlg hacc (b11 j a hj ha')
            · have := sum_less (c := c) hcut hlg
              rw [hwL, if_neg Bool.false_ne_true]
              omega
          · have hb2 : (decide (mn < 0) || decide ((k' : Int) < (k : Int) - 1)) = true := by rw [Bool.not_eq_false'] at hb; exact hb
            rw [hb2]
            refine ⟨true, fam, fx, pR, W, _, rfl, x10 _ _ (x9 _ _ (x8 _ _ (x7 _ _ b1))), t9.trans (Tx.of x10), y9.trans x10, x10 _ _ (x9 _ _ (x8 _ _ (x7 _ _ b4))), AllR.up ((x7.trans x8).trans (x9.trans x10)) b5, b6, x10 _ _ (x9 _ _ (x8 _ _ (x7 _ _ b7))), b8, b9, b10, b11, fun _ => ?_, by simp⟩
            rintro ⟨hlg, hac⟩
            have hNL := hleg.mp hlg
            have hwL : wN L = less N.2 (wN W) pl := by rw [hL]; exact later_less b9 b10 hlg
            have h1 := hac k k' hk (by rw [← hwL]; exact hk')
            rw [hnn.mpr hNL, Bool.false_or, decide_eq_true_eq] at hb2
            omega
    · have hbt : b = true := by simpa using hb
      subst hbt
      refine ⟨x7 _ _ b1, ?_, b3.trans x7, fam, fx, pR, W, _, _, _, _, rfl, x7 _ _ b4, AllR.up x7 b5, b6, x7 _ _ b7, b8, b9, b10, fun j a hj ha' => ?_⟩
      · exact ((a2.trans (Tx.of x5)).trans b2).trans (Tx.of x7)
      · by_cases hji : j = i
        · subst hji
          rw [ha] at ha'
          cases ha'
          exact b12 rfl
        · exact b11 j a (by omega) ha'
  · obtain ⟨a1, a2, a3, fam, fx, pR, W, o5, o6, o7, o8, rfl, a4, a5, a6, a7, a8, a9, a10, a11⟩ := hpv
    have hfl := gr_len a8
    refine k_retV (f := dT (dT dI)) (y := fam) (v_tuple (v_var rfl ⟨pF, fx, rfl, a4, a5, by show _ ≤ 4000; omega⟩)) fun w5 H5 x5 r5 => q w5 H5 _ ((x1.trans a3).trans x5) r5 ?_
    show Best N.1.toNat N.2 fam
    rw [en]
    refine gr_best a8 fun p hp => ?_
    obtain ⟨j, hj⟩ := List.mem_iff_getElem?.mp ((hmem p).mpr hp)
    exact a11 j p (List.getElem?_eq_some_iff.mp hj).1 hj

abbrev sp_apart (C : Addr) : Sp := sp1 (dNet C) (dT (dT dI)) (fun N => NetOk N) fun N y => Best N.1.toNat N.2 y
abbrev H_apart (P : Program) (w : World) (K : PySem.W.Frag) (mg : Str → Option Value) (base : Heap) (C : Addr) : Prop := FnAt P w K mg base "apart" 9 ["net"] (sp_apart C)
theorem ok_apart {P : Program} {w : World} {K : PySem.W.Frag} {mg : Str → Option Value} {base : Heap} {C : Addr} (D : DefAt K mg "apart" s_apart) (B : Bts mg) (h_need_net : H_need_net P w K mg base C) (h_packing : H_packing P w K mg base C) (NK : NetK P w K mg base C)  : H_apart P w K mg base C := by
  refine fnAt D sc_apart (fun _ _ _ _ _ _ us hl => match us, hl with | [_], _ => rfl) sp1_len fun fad cdv A outer s H vs Q E hr h => ⟨_, PSs.nox (pss_cons (ps_expr (pcall h_need_net hr (by decide) rfl (pa_cons (pv 0) pa_nil)))
    (pss_one (ps_ret (pcall h_packing hr (by decide) rfl (pa_cons (pv 0) (pa_cons (pe_lc (own := [("road", 1)]) rfl sc_apart.nd (kWalk K (pprop NK.cls NK.roads hr (by decide) (pv 0)))
      (blkOk_by (own := [("road", 1)]) (N := N_apart) (sc := defScope s_apart) (by decide +kernel))
      (fun _ _ _ _ _ => (pg_name (i := 1) sc_apart.nd rfl (by first | exact Or.inl rfl | exact Or.inr rfl))) (fun _ _ _ _ _ => pts_nil) (fun _ _ _ _ _ => pe_int)) pa_nil)))))), ?_⟩
  obtain ⟨v, N, rfl, ra, hN, q⟩ := h
  refine ⟨v, rfl, ⟨v, N, rfl, ra, trivial, fun w H1 _ x1 _ _ => ?_⟩⟩
  have hr7 := hN.r7
  refine k_ret (p_call2V (v_var rfl ((dNet C).up x1 ra)) (EvV.is (v_lcN (fun _ : Road => (1 : Int)) im_I (s_anyT (v_roads (v_var rfl ((dNet C).up x1 ra)))) (by show _ ≤ 4000; omega) b_name (fun _ _ _ ⟨_, e, _⟩ => by subst e; rfl) fun _ _ _ _ _ _ _ _ => v_int) List.map_const') ⟨hN, rfl⟩) fun w2 H2 y x2 r2 hy => q w2 H2 y (x1.trans x2) r2 hy
end Ow
-- OwF11
/-! The law's own defs without draws. -/
namespace Ow
open PySem PySem.Spec PyProof.Rows L2 Evl
section
variable {α β γ : Type} {K : PySem.W.Frag} {σ : L2.St} {H H' : Hp} {te ta tb tc : TE} {t u : TT} {e : Rl α} {f : Rl β} {g : Rl γ} {wi : TI} {D : Ends} {tu tz : TS} {l : List α}
theorem s_anyU {l : List α} (h : EvV (dU e) te σ H l) : Src e (iAny K te) σ H l := fun H1 x R q => h H1 x _ fun v H2 x2 r => by
  rcases r with ⟨p, xs, e1, hq, ha, _⟩ | ⟨p, xs, e1, hq, ha, _⟩
  · exact ⟨p, e1, .inl ⟨⟨xs, sq_of hq⟩, q _ H2 x2 (wk_list (K := K) (sq_of hq) ha)⟩⟩
  · exact ⟨p, e1, .inr ⟨⟨xs, st_of hq⟩, q _ H2 x2 (wk_tup (K := K) (st_of hq) ha)⟩⟩
/-- a promise of a new list -/
def spN1 (e : Rl α) (f : Rl β) (pre : α → Prop) (post : α → List β → Prop) : Sp := fun vs H Q _ => ∃ v a, vs = [v] ∧ e.r H v a ∧ pre a ∧ ∀ p H' xs y, H p = none → Ex H H' → H' p = some (.lst xs) → AllR f H' xs y → y.length ≤ lim → post a y → Q (.ref p) H'
theorem spN1_len {pre : α → Prop} {post : α → List β → Prop} {x : Str} : ∀ vs H Q E, spN1 e f pre post vs H Q E → vs.length = [x].length := fun vs H Q E ⟨v, a, e1, _⟩ => by rw [e1]; rfl
theorem n_call1 {E : XK} {a : α} {pre : α → Prop} {post : α → List β → Prop} (ha : EvV e ta σ H a) (hp : pre a) : EvN f (tCall (spN1 e f pre post) [] E (tCons ta tNil)) σ H (post a) := fun H1 x Q q =>
  ha H1 x _ fun v H2 x2 r1 => ⟨v, a, rfl, r1, hp, fun p H3 xs y h1 x3 h2 h3 h4 h5 => q p H3 xs y (fresh_back x2 h1) (x2.trans x3) h2 h3 h4 h5⟩
theorem k_retN {P : List β → Prop} (h : EvN f te σ H P) (k : ∀ p H1 xs y, H p = none → Ex H H1 → H1 p = some (.lst xs) → AllR f H1 xs y → y.length ≤ lim → P y → D.rt (.ref p) H1) : tRet te D σ H := h H (Ex.refl H) _ k
end
/-- sorted([(len(row), row) ..]), the rows again -/
def byLen (K : PySem.W.Frag) (l : List Pl) : List (Int × Pl) := (l.map fun r => ((r.length : Int), r)).mergeSort (PySem.W.dataLe false (encP (K := K) encI (encT encI)).enc)
theorem byLen_perm (K : PySem.W.Frag) (l : List Pl) : ((byLen K l).map Prod.snd).Perm l := by
  have h := (List.mergeSort_perm (l.map fun r => ((r.length : Int), r)) (PySem.W.dataLe false (encP (K := K) encI (encT encI)).enc)).map Prod.snd
  rw [List.map_map] at h
  have e : l.map (Prod.snd ∘ fun r => ((r.length : Int), r)) = l := by
    show l.map (fun r => r) = l
    exact List.map_id' l
  rw [e] at h
  exact h
theorem byLen_len (K : PySem.W.Frag) (l : List Pl) : (byLen K l).length = l.length := by
  unfold byLen
  rw [List.length_mergeSort, List.length_map]
theorem alike_ip (K : PySem.W.Frag) (a b : Int × Pl) : PySem.W.alike ((encP (K := K) encI (encT encI)).enc a) ((encP (K := K) encI (encT encI)).enc b) = true := by
  show PySem.W.alike (.tuple [.int _, .tuple (a.2.map .int)]) (.tuple [.int _, .tuple (b.2.map .int)]) = true
  simp only [PySem.W.alike, PySem.W.alikeAll]
  rw [PySem.W.alike_ints a.2 b.2]
  rfl

abbrev sp_law_sets  : Sp := sp1 dI (dL (dT dI)) (fun m => 0 ≤ m ∧ m ≤ 10) fun m y => y.Perm (subs m.toNat)
abbrev H_law_sets (P : Program) (w : World) (K : PySem.W.Frag) (mg : Str → Option Value) (base : Heap)  : Prop := FnAt P w K mg base "_law_sets" 1 ["_law_count"] sp_law_sets
theorem ok_law_sets {P : Program} {w : World} {K : PySem.W.Frag} {mg : Str → Option Value} {base : Heap}  (D : DefAt K mg "_law_sets" s_law_sets) (B : Bts mg)  : H_law_sets P w K mg base := by
  refine fnAt D sc_law_sets (fun _ _ _ _ _ _ us hl => match us, hl with | [_], _ => rfl) sp1_len fun fad cdv A outer s H vs Q E hr h => ⟨_, PSs.nox (pss_cons (ps_set (i := 1) sc_law_sets.nd rfl (by first | exact Or.inl rfl | exact Or.inr rfl) (pe_lst (pa_cons (pe_tup pa_nil) pa_nil)))
    (pss_cons (ps_for PassesOwn.never rfl (pi_range1 (by rfl) B.range (pa_cons (pv 0) pa_nil)) (pg_name (i := 2) sc_law_sets.nd rfl (by first | exact Or.inl rfl | exact Or.inr rfl))
    (pss_one (ps_set (i := 1) sc_law_sets.nd rfl (by first | exact Or.inl rfl | exact Or.inr rfl) (pe_op (kPlus K) (pv 1) (pe_lc (own := [("_law_row", 3)]) rfl sc_law_sets.nd (kWalk K (pv 1))
      (blkOk_by (own := [("_law_row", 3)]) (N := N_law_sets) (sc := defScope s_law_sets) (by decide +kernel))
      (fun _ _ _ _ _ => (pg_name (i := 3) sc_law_sets.nd rfl (by first | exact Or.inl rfl | exact Or.inr rfl))) (fun _ _ _ _ _ => pts_nil) (fun _ _ _ _ _ => (pe_op (kPlus K) (pv 3) (pe_tup (pa_cons (pv 2) pa_nil)))))))))
    (pss_one (ps_ret (pe_lc (own := [("_law_length", 4), ("_law_row", 3)]) rfl sc_law_sets.nd (kWalk K (pe_callB (kSort K hr.units) (by rfl) B.sorted (by decide +kernel) (pa_cons (pe_lc (own := [("_law_row", 3)]) rfl sc_law_sets.nd (kWalk K (pv 1))
      (blkOk_by (own := [("_law_row", 3)]) (N := N_law_sets) (sc := defScope s_law_sets) (by decide +kernel))
      (fun _ _ _ _ _ => (pg_name (i := 3) sc_law_sets.nd rfl (by first | exact Or.inl rfl | exact Or.inr rfl))) (fun _ _ _ _ _ => pts_nil) (fun _ _ _ _ _ => (pe_tup (pa_cons (pe_callB (kLen K) (by rfl) B.len PySem.boot_len (pa_cons (pv 3) pa_nil)) (pa_cons (pv 3) pa_nil))))) pa_nil)))
      (blkOk_by (own := [("_law_length", 4), ("_law_row", 3)]) (N := N_law_sets) (sc := defScope s_law_sets) (by decide +kernel))
      (fun _ _ _ _ _ => (kTup K (n := 2) (pgs_cons (pg_name (i := 4) sc_law_sets.nd rfl (by first | exact Or.inl rfl | exact Or.inr rfl)) (pgs_cons (pg_name (i := 3) sc_law_sets.nd rfl (by first | exact Or.inl rfl | exact Or.inr rfl)) pgs_nil)))) (fun _ _ _ _ _ => pts_nil) (fun _ _ _ _ _ => (pv 3))))))), ?_⟩
  obtain ⟨v1, m, rfl, ra, ⟨m0, m1⟩, q⟩ := h
  have hb : ∀ i, i ≤ m.toNat → (subs i).length ≤ 1024 := fun i hi => by
    rw [subs_len]
    have h1 : i ≤ 10 := by omega
    exact Nat.pow_le_pow_right (by decide) h1
  refine k_setV (f := dL (dT dI)) (y := subs 0) (v_lst1 v_tup0) fun w1 H1 x1 r1 => ?_
  refine kq_forR1 (n := m) (v_var rfl (dI.up x1 ra)) (by omega) (by omega) (fun i σ' H' => Ex H H' ∧ ∃ w o, σ' = [some v1, some w, o, none, none] ∧ dI.r H' v1 m ∧ (dL (dT dI)).r H' w (subs i)) (fun H2 x2 => ⟨x1.trans x2, w1, none, rfl, dI.up (x1.trans x2) ra, (dL (dT dI)).up x2 r1⟩) (fun i σ' H2 hi hp => ?_) fun σ' H2 hp => ?_
  · obtain ⟨x0, w, o, rfl, rm, rw'⟩ := hp
    have b1 := hb i (by omega)
    refine k_setV1 (f := dL (dT dI)) (y := subs (i + 1)) (v_addL (v_var rfl rw') (v_lcN (fun r => r ++ [(i : Int)]) (im_T im_I) (s_anyL (v_var rfl rw')) (by show _ ≤ 4000; omega) b_name (fun _ _ _ ⟨_, e, _⟩ => by subst e; rfl) ?_) (by rw [List.length_map]; show _ ≤ 4000; omega)) fun w3 H3 x3 r3 => ⟨x0.trans x3, w3, _, rfl, dI.up x3 rm, r3⟩
    rintro a ha H3 H4 σ' x3 ⟨y, rfl, r⟩ x4
    have la : a.length ≤ 1000 := by
      have h1 := subs_in ha
      have h2 := (asc_full (n := i) h1.1 h1.2).1
      omega
    exact v_addT (v_var rfl ((dT dI).up x4 r)) (v_tup1 (v_var rfl rfl)) (by show _ + 1 ≤ 4000; omega)
  · obtain ⟨x0, w, o, rfl, rm, rw'⟩ := hp
    have b1 := hb m.toNat (Nat.le_refl _)
    refine k_retV (v_lcN (l := byLen K (subs m.toNat)) Prod.snd (im_T im_I) (s_anyL (v_sortL (encP encI (encT encI)) (v_lcN (fun r : Pl => ((r.length : Int), r)) (im_P im_I (im_T im_I)) (s_anyL (v_var rfl rw')) (by show _ ≤ 4000; omega) b_name (fun _ _ _ ⟨_, e, _⟩ => by subst e; rfl) ?_) (alike_ip K) (PySem.W.Sortable.tuples fun b => ⟨_, _, rfl⟩))) (by rw [byLen_len]; show _ ≤ 4000; omega) b_pair (fun _ _ _ ⟨_, _, e, _⟩ => by subst e; rfl) ?_) fun z H3 x3 r3 => q z H3 _ (x0.trans x3) r3 (byLen_perm K _)
    · rintro a _ H3 H4 σ' x3 ⟨y, rfl, r⟩ x4
      exact v_pair (v_lenT (v_var rfl ((dT dI).up x4 r))) (v_var rfl ((dT dI).up x4 r))
    · rintro a _ H3 H4 σ' x3 ⟨y, z, rfl, r1, r2⟩ x4
      exact v_var rfl ((dT dI).up x4 r2)

abbrev sp_law_ordered  : Sp := spN1 (dU (dT dI)) (dT dI) (fun _ => True) fun F y => y.Perm F
abbrev H_law_ordered (P : Program) (w : World) (K : PySem.W.Frag) (mg : Str → Option Value) (base : Heap)  : Prop := FnAt P w K mg base "_law_ordered" 1 ["_law_family"] sp_law_ordered
theorem ok_law_ordered {P : Program} {w : World} {K : PySem.W.Frag} {mg : Str → Option Value} {base : Heap}  (D : DefAt K mg "_law_ordered" s_law_ordered) (B : Bts mg)  : H_law_ordered P w K mg base := by
  refine fnAt D sc_law_ordered (fun _ _ _ _ _ _ us hl => match us, hl with | [_], _ => rfl) spN1_len fun fad cdv A outer s H vs Q E hr h => ⟨_, PSs.nox (pss_one (ps_ret (pe_lc (own := [("_law_size", 1), ("_law_row", 2)]) rfl sc_law_ordered.nd (kWalk K (pe_callB (kSort K hr.units) (by rfl) B.sorted (by decide +kernel) (pa_cons (pe_lc (own := [("_law_row", 2)]) rfl sc_law_ordered.nd (kWalk K (pv 0))
      (blkOk_by (own := [("_law_row", 2)]) (N := N_law_ordered) (sc := defScope s_law_ordered) (by decide +kernel))
      (fun _ _ _ _ _ => (pg_name (i := 2) sc_law_ordered.nd rfl (by first | exact Or.inl rfl | exact Or.inr rfl))) (fun _ _ _ _ _ => pts_nil) (fun _ _ _ _ _ => (pe_tup (pa_cons (pe_callB (kLen K) (by rfl) B.len PySem.boot_len (pa_cons (pv 2) pa_nil)) (pa_cons (pv 2) pa_nil))))) pa_nil)))
      (blkOk_by (own := [("_law_size", 1), ("_law_row", 2)]) (N := N_law_ordered) (sc := defScope s_law_ordered) (by decide +kernel))
      (fun _ _ _ _ _ => (kTup K (n := 2) (pgs_cons (pg_name (i := 1) sc_law_ordered.nd rfl (by first | exact Or.inl rfl | exact Or.inr rfl)) (pgs_cons (pg_name (i := 2) sc_law_ordered.nd rfl (by first | exact Or.inl rfl | exact Or.inr rfl)) pgs_nil)))) (fun _ _ _ _ _ => pts_nil) (fun _ _ _ _ _ => (pv 2))))), ?_⟩
  obtain ⟨v1, F, rfl, ra, -, q⟩ := h
  have hl := dU_len ra
  refine k_retN (n_lcN (l := byLen K F) Prod.snd (im_T im_I) (s_anyL (v_sortL (encP encI (encT encI)) (v_lcN (fun r : Pl => ((r.length : Int), r)) (im_P im_I (im_T im_I)) (s_anyU (v_var rfl ra)) hl b_name (fun _ _ _ ⟨_, e, _⟩ => by subst e; rfl) ?_) (alike_ip K) (PySem.W.Sortable.tuples fun b => ⟨_, _, rfl⟩))) (by rw [byLen_len]; exact hl) b_pair (fun _ _ _ ⟨_, _, e, _⟩ => by subst e; rfl) ?_) fun p H1 xs y h1 x1 h2 h3 h4 h5 => q p H1 xs y h1 x1 h2 h3 h4 (by rw [h5]; exact byLen_perm K F)
  · rintro a _ H3 H4 σ' x3 ⟨y, rfl, r⟩ x4
    exact v_pair (v_lenT (v_var rfl ((dT dI).up x4 r))) (v_var rfl ((dT dI).up x4 r))
  · rintro a _ H3 H4 σ' x3 ⟨y, z, rfl, r1, r2⟩ x4
    exact v_var rfl ((dT dI).up x4 r2)

abbrev sp_law_is_closed  : Sp := sp2 (dL (dP dI dI)) (dT dI) dB (fun _ _ => True) fun rs p y => y = closedB rs p
abbrev H_law_is_closed (P : Program) (w : World) (K : PySem.W.Frag) (mg : Str → Option Value) (base : Heap)  : Prop := FnAt P w K mg base "_law_is_closed" 1 ["_law_roads", "_law_places"] sp_law_is_closed
theorem ok_law_is_closed {P : Program} {w : World} {K : PySem.W.Frag} {mg : Str → Option Value} {base : Heap}  (D : DefAt K mg "_law_is_closed" s_law_is_closed) (B : Bts mg)  : H_law_is_closed P w K mg base := by
  refine fnAt D sc_law_is_closed (fun _ _ _ _ _ _ us hl => match us, hl with | [_, _], _ => rfl) sp2_len fun fad cdv A outer s H vs Q E hr h => ⟨_, PSs.nox (pss_one (ps_ret (pe_cmpR (kEq K hr.units) (pe_lc (own := [("_law_first", 2), ("_law_last", 3)]) rfl sc_law_is_closed.nd (kWalk K (pv 0))
      (blkOk_by (own := [("_law_first", 2), ("_law_last", 3)]) (N := N_law_is_closed) (sc := defScope s_law_is_closed) (by decide +kernel))
      (fun _ _ _ _ _ => (kTup K (n := 2) (pgs_cons (pg_name (i := 2) sc_law_is_closed.nd rfl (by first | exact Or.inl rfl | exact Or.inr rfl)) (pgs_cons (pg_name (i := 3) sc_law_is_closed.nd rfl (by first | exact Or.inl rfl | exact Or.inr rfl)) pgs_nil)))) (fun _ _ _ _ _ => (pts_one (PW.pt (pw_and (pt_cmpR (kIn K) (pv 2) (pv 1) (by rfl)) (pw_and1 (pt_cmpR (kNotIn K) (pv 3) (pv 1) (by rfl))))))) (fun _ _ _ _ _ => pe_int)) (pe_lst pa_nil) (nomark _)))), ?_⟩
  obtain ⟨v, v2, rs, p, rfl, ra, rb, -, q⟩ := h
  refine k_retV (v_eq (encL encI) (v_lc (fun r : Road => decide (r.1 ∈ p) && decide (r.2 ∉ p)) (fun _ => (1 : Int)) im_I (s_anyL (v_var rfl ra)) (dL_len ra) b_pair (fun _ _ _ ⟨_, _, e, _⟩ => by subst e; rfl) ?_ fun _ _ _ _ _ _ _ _ _ => v_int) v_lst0) fun w H1 x r => q w H1 _ x r ?_
  · rintro a _ H1 σ' x ⟨y, z, rfl, r1, r2⟩
    exact et_and (t_test (v_inT (v_var rfl r1) (v_var rfl ((dT dI).up x rb)))) fun _ => t_test (v_notInT (v_var rfl r2) (v_var rfl ((dT dI).up x rb)))
  · show decide _ = closedB rs p
    unfold closedB
    rw [Bool.eq_iff_iff, decide_eq_true_eq, List.map_eq_nil_iff, List.filter_eq_nil_iff, Bool.not_eq_true', ← Bool.not_eq_true, List.any_eq_true]
    exact ⟨fun h ⟨r, hr, e⟩ => h r hr e, fun h r hr e => h ⟨r, hr, e⟩⟩

abbrev sp_law_cuts  : Sp := sp2 dI (dL (dP dI dI)) (dL (dT dI)) (fun m _ => 0 ≤ m ∧ m ≤ 10) fun m rs y => ∀ p, p ∈ y ↔ IsCut m.toNat rs p
abbrev H_law_cuts (P : Program) (w : World) (K : PySem.W.Frag) (mg : Str → Option Value) (base : Heap)  : Prop := FnAt P w K mg base "_law_cuts" 2 ["_law_many", "_law_roads"] sp_law_cuts
theorem ok_law_cuts {P : Program} {w : World} {K : PySem.W.Frag} {mg : Str → Option Value} {base : Heap}  (D : DefAt K mg "_law_cuts" s_law_cuts) (B : Bts mg) (h_law_sets : H_law_sets P w K mg base) (h_law_is_closed : H_law_is_closed P w K mg base)  : H_law_cuts P w K mg base := by
  refine fnAt D sc_law_cuts (fun _ _ _ _ _ _ us hl => match us, hl with | [_, _], _ => rfl) sp2_len fun fad cdv A outer s H vs Q E hr h => ⟨_, PSs.nox (pss_one (ps_ret (pe_lc (own := [("_law_row", 2)]) rfl sc_law_cuts.nd (kWalk K (pcall h_law_sets hr (by decide) rfl (pa_cons (pv 0) pa_nil)))
      (blkOk_by (own := [("_law_row", 2)]) (N := N_law_cuts) (sc := defScope s_law_cuts) (by decide +kernel))
      (fun _ _ _ _ _ => (pg_name (i := 2) sc_law_cuts.nd rfl (by first | exact Or.inl rfl | exact Or.inr rfl))) (fun _ _ _ _ _ => (pts_one (PW.pt (pw_and (pt_chain op_lt op_lt pe_int (pe_callB (kLen K) (by rfl) B.len PySem.boot_len (pa_cons (pv 2) pa_nil)) (pv 0)) (pw_and1 (pt_val (pcall h_law_is_closed hr (by decide) rfl (pa_cons (pv 1) (pa_cons (pv 2) pa_nil))))))))) (fun _ _ _ _ _ => (pv 2))))), ?_⟩
  obtain ⟨v, v2, m, rs, rfl, ra, rb, hm, q⟩ := h
  refine k_ret (p_lc (R := fun y => ∀ p, p ∈ y ↔ IsCut m.toNat rs p) (p_call1V (v_var rfl ra) hm) fun l H1 te' x1 hl hv => EvV.p (v_lc (fun p : Pl => (decide ((0 : Int) < (p.length : Int)) && decide ((p.length : Int) < m)) && closedB rs p) id (im_T im_I) (s_anyL hv) ?_ b_name (fun _ _ _ ⟨_, e, _⟩ => by subst e; rfl) ?_ ?_) ?_) fun w H1 y x r hy => q w H1 y x r hy
  · rw [hl.length_eq, subs_len]
    show _ ≤ 4000
    have h1 : 2 ^ m.toNat ≤ 2 ^ 10 := Nat.pow_le_pow_right (by decide) (by omega)
    omega
  · rintro a _ H2 σ' x2 ⟨y, rfl, r⟩
    exact et_and (t_test (v_chain v_int (v_lenT (v_var rfl r)) (v_var rfl (dI.up (x1.trans x2) ra)))) fun _ => t_B (v_call2 (v_var rfl ((dL (dP dI dI)).up (x1.trans x2) rb)) (v_var rfl r) trivial fun _ z => z)
  · rintro a _ H2 H3 σ' x2 ⟨y, rfl, r⟩ x3 _
    exact v_var rfl ((dT dI).up x3 r)
  · intro p
    obtain ⟨n, hn⟩ : ∃ n : Nat, m = (n : Int) := ⟨m.toNat, by omega⟩
    have en : m.toNat = n := by omega
    rw [List.map_id, List.mem_filter, hl.mem_iff, en, ← cutB_iff]
    subst hn
    have e : ∀ X : Bool, (isSet p (n : Int) && X) = true ↔ p ∈ subs n ∧ X = true := fun X => by
      rw [Bool.and_eq_true, isSet_iff]
      exact ⟨fun ⟨h1, h2⟩ => ⟨subs_all h1.1 h1.2, h2⟩, fun ⟨h1, h2⟩ => ⟨subs_in h1, h2⟩⟩
    exact (e _).symm

abbrev sp_law_into  : Sp := sp2 (dL (dP dI dI)) (dT dI) (dT dI) (fun _ _ => True) fun rs p y => y = into rs p
abbrev H_law_into (P : Program) (w : World) (K : PySem.W.Frag) (mg : Str → Option Value) (base : Heap)  : Prop := FnAt P w K mg base "_law_into" 1 ["_law_roads", "_law_places"] sp_law_into
theorem ok_law_into {P : Program} {w : World} {K : PySem.W.Frag} {mg : Str → Option Value} {base : Heap}  (D : DefAt K mg "_law_into" s_law_into) (B : Bts mg)  : H_law_into P w K mg base := by
  refine fnAt D sc_law_into (fun _ _ _ _ _ _ us hl => match us, hl with | [_, _], _ => rfl) sp2_len fun fad cdv A outer s H vs Q E hr h => ⟨_, PSs.nox (pss_one (ps_ret (pe_callTy (kTuple K) (by rfl) B.tuple (by decide +kernel) (pa_cons (pe_lc (own := [("_law_at", 2), ("_law_road_here", 3)]) rfl sc_law_into.nd (kEnumL K (by rfl) B.enumerate (pa_cons (pv 0) pa_nil))
      (blkOk_by (own := [("_law_at", 2), ("_law_road_here", 3)]) (N := N_law_into) (sc := defScope s_law_into) (by decide +kernel))
      (fun _ _ _ _ _ => (kTup K (n := 2) (pgs_cons (pg_name (i := 2) sc_law_into.nd rfl (by first | exact Or.inl rfl | exact Or.inr rfl)) (pgs_cons (pg_name (i := 3) sc_law_into.nd rfl (by first | exact Or.inl rfl | exact Or.inr rfl)) pgs_nil)))) (fun _ _ _ _ _ => (pts_one (PW.pt (pw_and (pt_cmpR (kNotIn K) (pe_ix (kIx K) (pv 3) pe_int (fun _ _ => rfl)) (pv 1) (by rfl)) (pw_and1 (pt_cmpR (kIn K) (pe_ix (kIx K) (pv 3) pe_int (fun _ _ => rfl)) (pv 1) (by rfl))))))) (fun _ _ _ _ _ => (pv 2))) pa_nil)))), ?_⟩
  obtain ⟨v, v2, rs, p, rfl, ra, rb, -, q⟩ := h
  refine k_retV (v_tuple (v_lc (fun a : Int × Road => decide (a.2.1 ∉ p) && decide (a.2.2 ∈ p)) Prod.fst im_I (s_enumL (v_var rfl ra)) (by rw [enumI_len]; exact dL_len ra) b_pair (fun _ _ _ ⟨_, _, e, _⟩ => by subst e; rfl) ?_ ?_)) fun w H1 x1 r1 => q w H1 _ x1 r1 rfl
  · rintro a _ H1 σ' x ⟨y, z, rfl, r1, r2⟩
    exact et_and (t_test (v_notInT (v_ixP0 (v_var rfl r2)) (v_var rfl ((dT dI).up x rb)))) fun _ => t_test (v_inT (v_ixP1 (v_var rfl r2)) (v_var rfl ((dT dI).up x rb)))
  · rintro a _ H1 H2 σ' x ⟨y, z, rfl, r1, r2⟩ x2 _
    exact v_var rfl (dI.up x2 r1)

abbrev sp_law_uses  : Sp := sp2 (dL (dP dI dI)) (dT (dT dI)) (dT dI) (fun rs F => rs.length ≤ 1000) fun rs F y => y = usesL rs F
abbrev H_law_uses (P : Program) (w : World) (K : PySem.W.Frag) (mg : Str → Option Value) (base : Heap)  : Prop := FnAt P w K mg base "_law_uses" 2 ["_law_roads", "_law_family"] sp_law_uses
theorem ok_law_uses {P : Program} {w : World} {K : PySem.W.Frag} {mg : Str → Option Value} {base : Heap}  (D : DefAt K mg "_law_uses" s_law_uses) (B : Bts mg) (h_law_into : H_law_into P w K mg base)  : H_law_uses P w K mg base := by
  refine fnAt D sc_law_uses (fun _ _ _ _ _ _ us hl => match us, hl with | [_, _], _ => rfl) sp2_len fun fad cdv A outer s H vs Q E hr h => ⟨_, PSs.nox (pss_cons (ps_set (i := 2) sc_law_uses.nd rfl (by first | exact Or.inl rfl | exact Or.inr rfl) (pe_lc (own := [("_law_row", 3)]) rfl sc_law_uses.nd (kWalk K (pv 1))
      (blkOk_by (own := [("_law_row", 3)]) (N := N_law_uses) (sc := defScope s_law_uses) (by decide +kernel))
      (fun _ _ _ _ _ => (pg_name (i := 3) sc_law_uses.nd rfl (by first | exact Or.inl rfl | exact Or.inr rfl))) (fun _ _ _ _ _ => pts_nil) (fun _ _ _ _ _ => (pcall h_law_into hr (by decide) rfl (pa_cons (pv 0) (pa_cons (pv 3) pa_nil))))))
    (pss_one (ps_ret (pe_callTy (kTuple K) (by rfl) B.tuple (by decide +kernel) (pa_cons (pe_lc (own := [("_law_number", 4)]) rfl sc_law_uses.nd (pi_range1 (by rfl) B.range (pa_cons (pe_callB (kLen K) (by rfl) B.len PySem.boot_len (pa_cons (pv 0) pa_nil)) pa_nil))
      (blkOk_by (own := [("_law_number", 4)]) (N := N_law_uses) (sc := defScope s_law_uses) (by decide +kernel))
      (fun _ _ _ _ _ => (pg_name (i := 4) sc_law_uses.nd rfl (by first | exact Or.inl rfl | exact Or.inr rfl))) (fun _ _ _ _ _ => pts_nil) (fun _ _ _ _ _ => (pe_callB (kLen K) (by rfl) B.len PySem.boot_len (pa_cons (pe_lc (own := [("_law_row", 3)]) rfl sc_law_uses.nd (kWalk K (pv 2))
      (blkOk_by (own := [("_law_row", 3)]) (N := N_law_uses) (sc := _) (by rfl))
      (fun _ _ _ _ _ => (pg_name (i := 3) sc_law_uses.nd rfl (by first | exact Or.inl rfl | exact Or.inr rfl))) (fun _ _ _ _ _ => (pts_one (pt_cmpR (kIn K) (pv 4) (pv 3) (by rfl)))) (fun _ _ _ _ _ => pe_int)) pa_nil)))) pa_nil))))), ?_⟩
  obtain ⟨v, v2, rs, F, rfl, ra, rb, hl, q⟩ := h
  refine k_setV (f := dL (dT dI)) (y := F.map (into rs)) (v_lcN (into rs) (im_T im_I) (s_anyT (v_var rfl rb)) (dT_len rb) b_name (fun _ _ _ ⟨_, e, _⟩ => by subst e; rfl) ?_) fun w H1 x1 r1 => ?_
  · rintro a _ H1 H2 σ' x ⟨y, rfl, r⟩ x2
    exact v_call2 (v_var rfl ((dL (dP dI dI)).up (x.trans x2) ra)) (v_var rfl ((dT dI).up x2 r)) trivial fun _ z => z
  · refine k_retV (v_tuple (v_lcN (fun e : Int => ((((F.map (into rs)).filter fun row => decide (e ∈ row)).map fun _ => (1 : Int)).length : Int)) im_I (s_range1 (v_lenL (v_var rfl ((dL (dP dI dI)).up x1 ra))) (by omega) (by omega)) (by rw [upFrom_len]; show _ ≤ 4000; omega) b_name (fun _ _ _ ⟨_, e, _⟩ => by subst e; rfl) ?_)) fun w2 H2 x2 r2 => q w2 H2 _ (x1.trans x2) r2 ?_
    · rintro a _ H2 H3 σ' x2 ⟨y, rfl, r⟩ x3
      refine v_lenL (v_lc (fun row : List Int => decide (a ∈ row)) (fun _ => (1 : Int)) im_I (s_anyL (v_var rfl ((dL (dT dI)).up (x2.trans x3) r1))) (dL_len r1) b_name (fun _ _ _ ⟨_, e, _⟩ => by subst e; rfl) ?_ fun _ _ _ _ _ _ _ _ _ => v_int)
      rintro b _ H4 σ' x4 ⟨z, rfl, rz⟩
      exact t_test (v_inT (v_var rfl (dI.up (x3.trans x4) r)) (v_var rfl rz))
    · show _ = usesL rs F
      rw [usesL_eq, Int.toNat_natCast]
      unfold upFrom
      rw [List.map_map]
      refine List.map_congr_left fun e _ => ?_
      show ((((F.map (into rs)).filter fun row => decide ((0 + (e : Int)) ∈ row)).map fun _ => (1 : Int)).length : Int) = _
      rw [Int.zero_add, List.length_map, ← List.countP_eq_length_filter, List.countP_map]
      refine congrArg Int.ofNat (List.countP_congr fun p _ => ?_)
      show decide ((e : Int) ∈ into rs p) = true ↔ hit rs p e = true
      rw [decide_eq_true_eq, into_iff]

abbrev sp_law_do_cross  : Sp := sp3 dI (dT dI) (dT dI) dB (fun m p q => 0 ≤ m ∧ Asc p ∧ Asc q ∧ p.length ≤ 100 ∧ q.length ≤ 100) fun m p q y => y = crossB m.toNat p q
abbrev H_law_do_cross (P : Program) (w : World) (K : PySem.W.Frag) (mg : Str → Option Value) (base : Heap)  : Prop := FnAt P w K mg base "_law_do_cross" 1 ["_law_many", "_law_one", "_law_other"] sp_law_do_cross
theorem ok_law_do_cross {P : Program} {w : World} {K : PySem.W.Frag} {mg : Str → Option Value} {base : Heap}  (D : DefAt K mg "_law_do_cross" s_law_do_cross) (B : Bts mg)  : H_law_do_cross P w K mg base := by
  refine fnAt D sc_law_do_cross (fun _ _ _ _ _ _ us hl => match us, hl with | [_, _, _], _ => rfl) sp3_len fun fad cdv A outer s H vs Q E hr h => ⟨_, PSs.nox (pss_cons (ps_setLc (i := 3) (own := [("_law_place", 4)]) rfl sc_law_do_cross.nd rfl rfl (sw_true rfl rfl rfl (by decide +kernel)) (kWalk K (pv 1))
      (blkOk_by (own := [("_law_place", 4)]) (N := N_law_do_cross) (sc := defScope s_law_do_cross) (by decide +kernel))
      (fun _ _ _ _ _ => (pg_name (i := 4) sc_law_do_cross.nd rfl (by first | exact Or.inl rfl | exact Or.inr rfl))) (fun _ _ _ _ _ => (pts_one (pt_cmpR (kIn K) (pv 4) (pv 2) (by rfl)))) (fun _ _ _ _ _ => (pv 4)))
    (pss_cons (ps_if (PW.pt (pw_or (pt_cmpR (kEq K hr.units) (pv 3) (pe_lst pa_nil) (nomark _)) (pw_or1 (pt_cmpR (kEq K hr.units) (pe_callB (kLenSet w) (by rfl) B.len (by decide +kernel) (pa_cons (pe_callTy (kSet K w) (by rfl) B.set (by decide +kernel) (pa_cons (pe_op (kPlus K) (pv 1) (pv 2)) pa_nil)) pa_nil)) (pv 0) (nomark _))))) (pss_one (ps_ret pe_bl)) pss_nil)
    (pss_one (ps_ret (pe_and (pe_cmpR op_lt (pe_callB (kLen K) (by rfl) B.len PySem.boot_len (pa_cons (pv 3) pa_nil)) (pe_callB (kLen K) (by rfl) B.len PySem.boot_len (pa_cons (pv 1) pa_nil)) (nomark _)) (pe_one (pe_cmpR op_lt (pe_callB (kLen K) (by rfl) B.len PySem.boot_len (pa_cons (pv 3) pa_nil)) (pe_callB (kLen K) (by rfl) B.len PySem.boot_len (pa_cons (pv 2) pa_nil)) (nomark _)))))))), ?_⟩
  obtain ⟨v1, v2, v3, m, p, q', rfl, ra, rb, rc, ⟨hm, hp, hq, lp, lq⟩, q⟩ := h
  have hlen : ∀ z : Int, (∃ ks : List Int, ks.Nodup ∧ (∀ k, k ∈ ks ↔ k ∈ p ++ q') ∧ z = (ks.length : Int)) → z = (ucount p q' : Int) := by
    rintro z ⟨ks, h1, h2, rfl⟩
    rw [ucount_len hp hq h1 fun x => (h2 x).trans List.mem_append]
  refine k_setV (v_lc (fun t => decide (t ∈ q')) id im_I (s_anyT (v_var rfl rb)) (dT_len rb) b_name (fun _ _ _ ⟨_, e, _⟩ => by subst e; rfl) ?_ ?_) fun w H1 x1 r1 => ?_
  · rintro a _ H1 σ' x ⟨y, rfl, r⟩
    exact t_test (v_inT (v_var rfl r) (v_var rfl ((dT dI).up x rc)))
  · rintro a _ H1 H2 σ' x ⟨y, rfl, r⟩ x2 _
    exact v_var rfl (dI.up x2 r)
  · rw [List.map_id] at r1
    refine k_if (b := decide (common p q' = []) || decide ((ucount p q' : Int) = m)) (et_or (t_test (v_eq (encL encI) (v_var rfl r1) v_lst0)) fun _ => t_test (v_eq encI ((p_lenSet (.inr (v_addT (v_var rfl ((dT dI).up x1 rb)) (v_var rfl ((dT dI).up x1 rc)) (by show _ ≤ 4000; omega))) (by rw [List.length_append]; omega)).v hlen) (v_var rfl (dI.up x1 ra)))) (fun hb H2 x2 => ?_) fun hb H2 x2 => ?_
    · refine k_retV v_bl fun w2 H3 x3 r3 => q w2 H3 _ ((x1.trans x2).trans x3) r3 ?_
      show false = crossB m.toNat p q'
      have e : decide (ucount p q' = m.toNat) = decide ((ucount p q' : Int) = m) := decide_eq_decide.mpr (by omega)
      unfold crossB
      rw [e, hb]
      rfl
    · refine k_retV (v_and (v_IB (v_lenL (v_var rfl ((dL dI).up x2 r1))) (v_lenT (v_var rfl ((dT dI).up (x1.trans x2) rb)))) fun _ => v_IB (v_lenL (v_var rfl ((dL dI).up x2 r1))) (v_lenT (v_var rfl ((dT dI).up (x1.trans x2) rc)))) fun w2 H3 x3 r3 => q w2 H3 _ ((x1.trans x2).trans x3) r3 ?_
      have e : decide (ucount p q' = m.toNat) = decide ((ucount p q' : Int) = m) := decide_eq_decide.mpr (by omega)
      show _ = crossB m.toNat p q'
      unfold crossB
      rw [e, hb]
      have e2 : ∀ a b : Nat, decide ((a : Int) < (b : Int)) = decide (a < b) := fun a b => decide_eq_decide.mpr Int.ofNat_lt
      rw [e2, e2]
      rfl

abbrev sp_law_first_cross  : Sp := sp2 dI (dL (dT dI)) (dO (dP dI dI)) (fun m F => 0 ≤ m ∧ F.length ≤ 100 ∧ ∀ p, p ∈ F → Asc p ∧ p.length ≤ 100) fun m F o => FcPost m.toNat F o
abbrev H_law_first_cross (P : Program) (w : World) (K : PySem.W.Frag) (mg : Str → Option Value) (base : Heap)  : Prop := FnAt P w K mg base "_law_first_cross" 2 ["_law_many", "_law_family"] sp_law_first_cross
theorem ok_law_first_cross {P : Program} {w : World} {K : PySem.W.Frag} {mg : Str → Option Value} {base : Heap}  (D : DefAt K mg "_law_first_cross" s_law_first_cross) (B : Bts mg) (h_law_do_cross : H_law_do_cross P w K mg base)  : H_law_first_cross P w K mg base := by
  refine fnAt D sc_law_first_cross (fun _ _ _ _ _ _ us hl => match us, hl with | [_, _], _ => rfl) sp2_len fun fad cdv A outer s H vs Q E hr h => ⟨_, PSs.nox (pss_cons (ps_for PassesOwn.never rfl (kEnumL K (by rfl) B.enumerate (pa_cons (pv 1) pa_nil)) (kTup K (n := 2) (pgs_cons (pg_name (i := 2) sc_law_first_cross.nd rfl (by first | exact Or.inl rfl | exact Or.inr rfl)) (pgs_cons (pg_name (i := 3) sc_law_first_cross.nd rfl (by first | exact Or.inl rfl | exact Or.inr rfl)) pgs_nil)))
    (pss_one (ps_for PassesOwn.never rfl (pi_range2 (by rfl) B.range (pa_cons (pe_op (kPlus K) (pv 2) pe_int) (pa_cons (pe_callB (kLen K) (by rfl) B.len PySem.boot_len (pa_cons (pv 1) pa_nil)) pa_nil))) (pg_name (i := 4) sc_law_first_cross.nd rfl (by first | exact Or.inl rfl | exact Or.inr rfl))
    (pss_one (ps_if (pt_val (pcall h_law_do_cross hr (by decide) rfl (pa_cons (pv 0) (pa_cons (pv 3) (pa_cons (pe_ix (kIx K) (pv 1) (pv 4) (fun _ _ => rfl)) pa_nil))))) (pss_one (ps_ret (pe_tup (pa_cons (pv 2) (pa_cons (pv 4) pa_nil))))) pss_nil)))))
    (pss_one (ps_ret pe_non))), ?_⟩
  obtain ⟨v1, v2, m, F, rfl, ra, rb, ⟨hm, hl, hF⟩, q⟩ := h
  refine kq_forP (s_enumL (v_var rfl rb)) (fun i σ' H' => Ex H H' ∧ (∃ o1 o2 o3, σ' = [some v1, some v2, o1, o2, o3]) ∧ ∀ a b p r, a < i → a < b → F[a]? = some p → F[b]? = some r → crossB m.toNat p r = false) (fun i σ' H1 H2 h x => ⟨h.1.trans x, h.2⟩) (fun H1 x1 => ⟨x1, ⟨none, none, none, rfl⟩, fun a b p r h => absurd h (Nat.not_lt_zero a)⟩) (fun i ap x y σ' H1 x1 hai rx ry hp N hN => ?_) fun σ' H1 x1 hp => ?_
  · obtain ⟨_, ⟨o1, o2, o3, rfl⟩, hno⟩ := hp
    have hi : i < F.length := by
      have := (List.getElem?_eq_some_iff.mp hai).1
      rw [enumI_len] at this
      exact this
    have ha : F[i]? = some F[i] := List.getElem?_eq_getElem hi
    rw [enumI_get ha] at hai
    have hai := Option.some.inj hai
    subst hai
    obtain rfl : x = V.int (i : Int) := rx
    have ry : (dT dI).r H1 y F[i] := ry
    refine k_forR2 (a := (i : Int) + 1) (b := (F.length : Int)) (v_addI (v_var rfl rfl) v_int) (v_lenL (v_var rfl ((dL (dT dI)).up x1 rb))) (by omega) (by omega) (by omega) (by omega) (fun j σ' H' => Ex H1 H' ∧ (∃ o2, σ' = [some v1, some v2, some (.int (i : Int)), some y, o2]) ∧ ∀ b p r, i < b → b < i + 1 + j → F[i]? = some p → F[b]? = some r → crossB m.toNat p r = false) (fun H2 x2 => ⟨x2, ⟨o3, rfl⟩, fun b p r h1 h2 => by omega⟩) (fun j σ' H2 hj hp => ?_) fun σ' H2 hp => ?_
    · obtain ⟨x2, ⟨o3, rfl⟩, hno2⟩ := hp
      have hjl : i + 1 + j < F.length := by omega
      have hb : F[i + 1 + j]? = some F[i + 1 + j] := List.getElem?_eq_getElem hjl
      have e1 : (i : Int) + 1 + (j : Int) = ((i + 1 + j : Nat) : Int) := by omega
      have hA := hF _ (List.getElem_mem hi)
      have hB := hF _ (List.getElem_mem hjl)
      rw [e1]
      refine k_when (b := crossB m.toNat F[i] F[i + 1 + j]) (t_B (v_call3 (v_var rfl (dI.up (x1.trans x2) ra)) (v_var rfl ((dT dI).up x2 ry)) (v_ixL (v_var rfl ((dL (dT dI)).up (x1.trans x2) rb)) (v_var rfl rfl) (by omega) (by rw [Int.toNat_natCast]; exact hb)) ⟨hm, hA.1, hB.1, hA.2, hB.2⟩ fun _ z => z)) (fun hc H3 x3 => ?_) fun hc H3 x3 => ?_
      · refine k_retV (f := dP dI dI) (y := ((i : Int), ((i + 1 + j : Nat) : Int))) (v_pair (v_var rfl rfl) (v_var rfl rfl)) fun w H4 x4 r4 => q w H4 (some _) ((x1.trans (x2.trans x3)).trans x4) ⟨?_, r4⟩ ⟨i, i + 1 + j, _, _, rfl, by omega, ha, hb, hc⟩
        obtain ⟨_, _, _, e, _⟩ := r4
        rw [e]
        exact fun z => nomatch z
      · refine ⟨x2.trans x3, ⟨_, rfl⟩, fun b p r h1 h2 hp hr => ?_⟩
        by_cases hbj : b = i + 1 + j
        · subst hbj
          rw [ha] at hp
          rw [hb] at hr
          cases hp
          cases hr
          exact hc
        · exact hno2 b p r h1 (by omega) hp hr
    · obtain ⟨x2, ⟨o3, rfl⟩, hno2⟩ := hp
      refine hN _ H2 x2 ⟨x1.trans x2, ⟨_, _, _, rfl⟩, fun a b p r h1 h2 hp hr => ?_⟩
      by_cases hai : a = i
      · subst hai
        have hbl := (List.getElem?_eq_some_iff.mp hr).1
        exact hno2 b p r h2 (by omega) hp hr
      · exact hno a b p r (by omega) h2 hp hr
  · obtain ⟨_, _, hno⟩ := hp
    rw [enumI_len] at hno
    refine k_retV (f := dN) (y := ()) v_non fun w H2 x2 r2 => q w H2 none (x1.trans x2) r2 ?_
    refine List.pairwise_iff_getElem.mpr fun a b ha hb hab => ?_
    exact hno a b _ _ ha hab (List.getElem?_eq_getElem ha) (List.getElem?_eq_getElem hb)
end Ow
-- OwF12
/-! The law's uncrossing. -/
namespace Ow
open PySem PySem.Spec PyProof.Rows L2 Evl

abbrev sp_law_uncrossed  : Sp := sp2 dI (dT (dT dI)) (dT (dT dI)) (fun m F => 0 ≤ m ∧ m ≤ 30 ∧ F.length ≤ 16 ∧ ∃ rs, ∀ p, p ∈ F → IsCut m.toNat rs p) fun m F y => ∀ rs, (∀ p, p ∈ F → IsCut m.toNat rs p) → UncPost (m, rs) F y
abbrev H_law_uncrossed (P : Program) (w : World) (K : PySem.W.Frag) (mg : Str → Option Value) (base : Heap)  : Prop := FnAt P w K mg base "_law_uncrossed" 3 ["_law_many", "_law_family"] sp_law_uncrossed
theorem ok_law_uncrossed {P : Program} {w : World} {K : PySem.W.Frag} {mg : Str → Option Value} {base : Heap}  (D : DefAt K mg "_law_uncrossed" s_law_uncrossed) (B : Bts mg) (h_law_ordered : H_law_ordered P w K mg base) (h_law_first_cross : H_law_first_cross P w K mg base)  : H_law_uncrossed P w K mg base := by
  refine fnAt D sc_law_uncrossed (fun _ _ _ _ _ _ us hl => match us, hl with | [_, _], _ => rfl) sp2_len fun fad cdv A outer s H vs Q E hr h => ⟨_, PSs.nox (pss_cons (ps_set (i := 2) sc_law_uncrossed.nd rfl (by first | exact Or.inl rfl | exact Or.inr rfl) (pcall h_law_ordered hr (by decide) rfl (pa_cons (pv 1) pa_nil)))
    (pss_cons (ps_set (i := 3) sc_law_uncrossed.nd rfl (by first | exact Or.inl rfl | exact Or.inr rfl) (pcall h_law_first_cross hr (by decide) rfl (pa_cons (pv 0) (pa_cons (pv 2) pa_nil))))
    (pss_cons (ps_while PassesOwn.never (pt_cmpR op_notN (pv 3) pe_non (nomark _)) (pss_cons (ps_asg (pe_tup (pa_cons (pe_ix (kIx K) (pv 2) (pe_ix (kIx K) (pv 3) pe_int (fun _ _ => rfl)) (fun _ _ => rfl)) (pa_cons (pe_ix (kIx K) (pv 2) (pe_ix (kIx K) (pv 3) pe_int (fun _ _ => rfl)) (fun _ _ => rfl)) pa_nil))) (kTup K (n := 2) (pgs_cons (pg_name (i := 4) sc_law_uncrossed.nd rfl (by first | exact Or.inl rfl | exact Or.inr rfl)) (pgs_cons (pg_name (i := 5) sc_law_uncrossed.nd rfl (by first | exact Or.inl rfl | exact Or.inr rfl)) pgs_nil))))
    (pss_cons (ps_asg (pe_callTy (kTuple K) (by rfl) B.tuple (by decide +kernel) (pa_cons (pe_lc (own := [("_law_place", 6)]) rfl sc_law_uncrossed.nd (kWalk K (pv 4))
      (blkOk_by (own := [("_law_place", 6)]) (N := N_law_uncrossed) (sc := defScope s_law_uncrossed) (by decide +kernel))
      (fun _ _ _ _ _ => (pg_name (i := 6) sc_law_uncrossed.nd rfl (by first | exact Or.inl rfl | exact Or.inr rfl))) (fun _ _ _ _ _ => (pts_one (pt_cmpR (kIn K) (pv 6) (pv 5) (by rfl)))) (fun _ _ _ _ _ => (pv 6))) pa_nil)) (pg_sub (pv 2) (pe_ix (kIx K) (pv 3) pe_int (fun _ _ => rfl)) set_list))
    (pss_cons (ps_asg (pe_callTy (kTuple K) (by rfl) B.tuple (by decide +kernel) (pa_cons (pe_lc (own := [("_law_place", 6)]) rfl sc_law_uncrossed.nd (pi_range1 (by rfl) B.range (pa_cons (pv 0) pa_nil))
      (blkOk_by (own := [("_law_place", 6)]) (N := N_law_uncrossed) (sc := defScope s_law_uncrossed) (by decide +kernel))
      (fun _ _ _ _ _ => (pg_name (i := 6) sc_law_uncrossed.nd rfl (by first | exact Or.inl rfl | exact Or.inr rfl))) (fun _ _ _ _ _ => (pts_one (PW.pt (pw_or (pt_cmpR (kIn K) (pv 6) (pv 4) (by rfl)) (pw_or1 (pt_cmpR (kIn K) (pv 6) (pv 5) (by rfl))))))) (fun _ _ _ _ _ => (pv 6))) pa_nil)) (pg_sub (pv 2) (pe_ix (kIx K) (pv 3) pe_int (fun _ _ => rfl)) set_list))
    (pss_cons (ps_set (i := 2) sc_law_uncrossed.nd rfl (by first | exact Or.inl rfl | exact Or.inr rfl) (pcall h_law_ordered hr (by decide) rfl (pa_cons (pv 2) pa_nil)))
    (pss_one (ps_set (i := 3) sc_law_uncrossed.nd rfl (by first | exact Or.inl rfl | exact Or.inr rfl) (pcall h_law_first_cross hr (by decide) rfl (pa_cons (pv 0) (pa_cons (pv 2) pa_nil))))))))))
    (pss_one (ps_ret (pe_callTy (kTuple K) (by rfl) B.tuple (by decide +kernel) (pa_cons (pv 2) pa_nil))))))), ?_⟩
  obtain ⟨v1, v2, m, F, rfl, ra, rb, ⟨hn0, hn1, hl, rs0, hF0⟩, q⟩ := h
  have hcl : ∀ rs p, IsCut m.toNat rs p → Asc p ∧ p.length ≤ 100 := fun rs p h => ⟨h.asc, by have := h.lt; omega⟩
  refine k_setN (n_call1 (v_var (e := dU (dT dI)) rfl (.inr rb)) trivial) fun p H2 xs F1 hp0 x2 hxs hr hl1 hperm => ?_
  have I0 : ∀ rs, (∀ p, p ∈ F → IsCut m.toNat rs p) → (∀ c, c ∈ F1 → IsCut m.toNat rs c) ∧ F1.length = F.length ∧ ∀ e, useF rs F1 e = useF rs F e := fun rs hF => ⟨fun c hc => hF c (hperm.mem_iff.mp hc), hperm.length_eq, fun e => hperm.countP_eq _⟩
  refine k_set (p_call2V (v_var rfl (dI.up x2 ra)) (v_var rfl ⟨p, xs, rfl, hxs, hr, hl1⟩) ⟨hn0, by rw [(I0 rs0 hF0).2.1]; omega, fun c hc => hcl rs0 c ((I0 rs0 hF0).1 c hc)⟩) fun v3 H3 o x3 ro ho => ?_
  refine q_while (fun μ σ' H' => ∃ (p : Addr) (xs : List V) (F' : List Pl) (o : Option (Int × Int)) (v3 : V) (o4 o5 : Option V), σ' = [some v1, some v2, some (.ref p), some v3, o4, o5, none] ∧ Ex H H' ∧ H p = none ∧ H' p = some (.lst xs) ∧ AllR (dT dI) H' xs F' ∧ F'.length ≤ 16 ∧ (dO (dP dI dI)).r H' v3 o ∧ FcPost m.toNat F' o ∧
      (∀ rs, (∀ p, p ∈ F → IsCut m.toNat rs p) → (∀ c, c ∈ F' → IsCut m.toNat rs c) ∧ F'.length = F.length ∧ ∀ e, useF rs F' e = useF rs F e) ∧ μ = left m.toNat F') (left m.toNat F1)
    ⟨p, xs, F1, o, v3, none, none, rfl, x2.trans x3, hp0, x3 _ _ hxs, AllR.up x3 hr, by rw [(I0 rs0 hF0).2.1]; exact hl, ro, ho, I0, rfl⟩ ?_
  rintro μ σ' H' ⟨p, xs, F', o, v3, o4, o5, rfl, y1, hp0, hxs, hr, hl2, ro, ho, hI, rfl⟩
  refine ⟨o.isSome, t_notN rfl ro, fun hb H4 x4 => ?_, fun hb H4 x4 => ?_⟩
  · obtain ⟨ij, rfl⟩ := Option.isSome_iff_exists.mp hb
    obtain ⟨i, j, c1, c2, rfl, hij, hi, hj, hcr⟩ := ho
    have rij := (dP dI dI).up x4 ro.2
    have hxl : xs.length = F'.length := Paired.length hr
    have hil := (List.getElem?_eq_some_iff.mp hi).1
    have hjl := (List.getElem?_eq_some_iff.mp hj).1
    have hc0 := (hI rs0 hF0).1
    have hc1 := hc0 c1 (List.mem_of_getElem? hi)
    have hc2 := hc0 c2 (List.mem_of_getElem? hj)
    refine ⟨fun σ2 H5 => ∃ (p : Addr) (xs : List V) (F2 : List Pl) (o : Option (Int × Int)) (v3 : V) (o4 o5 : Option V), σ2 = [some v1, some v2, some (.ref p), some v3, o4, o5, none] ∧ Ex H H5 ∧ H p = none ∧ H5 p = some (.lst xs) ∧ AllR (dT dI) H5 xs F2 ∧ F2.length ≤ 16 ∧ (dO (dP dI dI)).r H5 v3 o ∧ FcPost m.toNat F2 o ∧
      (∀ rs, (∀ p, p ∈ F → IsCut m.toNat rs p) → (∀ c, c ∈ F2 → IsCut m.toNat rs c) ∧ F2.length = F.length ∧ ∀ e, useF rs F2 e = useF rs F e) ∧ left m.toNat F2 < left m.toNat F', ?_, ?_⟩
    · rintro σ2 H5 ⟨p, xs, F2, o, v3, o4, o5, rfl, a1, a2, a3, a4, a5, a6, a7, a8, a9⟩
      exact ⟨_, a9, p, xs, F2, o, v3, o4, o5, rfl, a1, a2, a3, a4, a5, a6, a7, a8, rfl⟩
    · have hx4 : H4 p = some (.lst xs) := x4 _ _ hxs
      have rL : (dL (dT dI)).r H4 (.ref p) F' := ⟨p, xs, rfl, hx4, AllR.up x4 hr, by show _ ≤ 4000; omega⟩
      refine k_pairV (y := (c1, c2)) (v_pair (v_ixL (v_var rfl rL) (v_ixP0 (v_var rfl rij)) (by show 0 ≤ (i : Int); omega) (by simpa using hi)) (v_ixL (v_var rfl rL) (v_ixP1 (v_var rfl rij)) (by show 0 ≤ (j : Int); omega) (by simpa using hj))) fun a b H6 x6 r1 r2 => ?_
      have rij6 := (dP dI dI).up x6 rij
      refine kq_setI (f := dT dI) (b := common c1 c2) (xs := xs) (j := i) rfl (x6 _ _ hx4) (v_tuple (EvV.is (v_lc (fun t => decide (t ∈ c2)) id im_I (s_anyT (v_var rfl r1)) (dT_len r1) b_name (fun _ _ _ ⟨_, e, _⟩ => by subst e; rfl) ?_ ?_) (by rw [List.map_id]; rfl))) (v_ixP0 (v_var rfl rij6)) (by omega) fun w H7 x7 r7 => ?_
      · rintro a _ H7 σ' x7 ⟨y, rfl, r⟩
        exact t_test (v_inT (v_var rfl r) (v_var rfl ((dT dI).up x7 r2)))
      · rintro a _ H7 H8 σ' x7 ⟨y, rfl, r⟩ x8 _
        exact v_var rfl (dI.up x8 r)
      · have hx7 : H7 p = some (.lst xs) := x7 _ _ (x6 _ _ hx4)
        have t7 : Tx H7 (upd H7 p (.lst (xs.set i w))) := Tx.upd hx7
        have r17 : (dT dI).r (upd H7 p (.lst (xs.set i w))) a c1 := im_T im_I t7 ((dT dI).up x7 r1)
        have r27 : (dT dI).r (upd H7 p (.lst (xs.set i w))) b c2 := im_T im_I t7 ((dT dI).up x7 r2)
        have rij7 : (dP dI dI).r (upd H7 p (.lst (xs.set i w))) v3 ((i : Int), (j : Int)) := im_P im_I im_I t7 ((dP dI dI).up x7 rij6)
        have hlim : (upFrom 0 m.toNat).length ≤ lim := by rw [upFrom_len]; show _ ≤ 4000; omega
        refine kq_setI (f := dT dI) (b := (upFrom 0 m.toNat).filter fun t => decide (t ∈ c1) || decide (t ∈ c2)) (xs := xs.set i w) (j := j) rfl upd_same (v_tuple (EvV.is (v_lc (fun t => decide (t ∈ c1) || decide (t ∈ c2)) id im_I (s_range1 (v_var rfl (show dI.r _ v1 m from ra)) (by omega) (by omega)) hlim b_name (fun _ _ _ ⟨_, e, _⟩ => by subst e; rfl) ?_ ?_) (by rw [List.map_id]))) (v_ixP1 (v_var rfl rij7)) (by rw [List.length_set]; omega) fun w2 H8 x8 r8 => ?_
        · rintro a _ H8 σ' x8 ⟨y, rfl, r⟩
          exact et_or (t_test (v_inT (v_var rfl r) (v_var rfl ((dT dI).up x8 r17)))) fun _ => t_test (v_inT (v_var rfl r) (v_var rfl ((dT dI).up x8 r27)))
        · rintro a _ H8 H9 σ' x8 ⟨y, rfl, r⟩ x9 _
          exact v_var rfl (dI.up x9 r)
        · have hu1 : Asc ((upFrom 0 m.toNat).filter fun t => decide (t ∈ c1) || decide (t ∈ c2)) := by
            have e : upFrom 0 m.toNat = upto m.toNat := by
              unfold upFrom upto
              refine List.map_congr_left fun e _ => ?_
              show 0 + (e : Int) = Int.ofNat e
              rw [Int.zero_add]
              rfl
            rw [e]
            exact List.Pairwise.filter _ (asc_upto _)
          have hu2 : ∀ x, x ∈ ((upFrom 0 m.toNat).filter fun t => decide (t ∈ c1) || decide (t ∈ c2)) ↔ x ∈ c1 ∨ x ∈ c2 := fun x => by
            rw [List.mem_filter, Bool.or_eq_true, decide_eq_true_eq, decide_eq_true_eq]
            refine ⟨fun z => z.2, fun z => ⟨?_, z⟩⟩
            have h1 := z.elim (hc1.rng x) (hc2.rng x)
            refine List.mem_map.mpr ⟨x.toNat, List.mem_range.mpr (by omega), by omega⟩
          have hx8 : H8 p = some (.lst (xs.set i w)) := x8 _ _ upd_same
          have t8 : Tx H8 (upd H8 p (.lst ((xs.set i w).set j w2))) := Tx.upd hx8
          have hr8 : AllR (dT dI) (upd H8 p (.lst ((xs.set i w).set j w2))) ((xs.set i w).set j w2) ((F'.set i (common c1 c2)).set j ((upFrom 0 m.toNat).filter fun t => decide (t ∈ c1) || decide (t ∈ c2))) :=
            pd_set (pd_set (AllR.im (im_T im_I) ((t7.trans (Tx.of x8)).trans t8) (AllR.up (x4.trans (x6.trans x7)) hr)) (im_T im_I ((t7.trans (Tx.of x8)).trans t8) r7) i) (im_T im_I t8 r8) j
          have hst : ∀ rs, (∀ p, p ∈ F → IsCut m.toNat rs p) → Step m.toNat rs F' ((F'.set i (common c1 c2)).set j ((upFrom 0 m.toNat).filter fun t => decide (t ∈ c1) || decide (t ∈ c2))) := fun rs hF => uncross_step (hI rs hF).1 (Nat.ne_of_lt hij) hi hj hcr hu1 hu2
          have y8 : Ex H (upd H8 p (.lst ((xs.set i w).set j w2))) := Ex.mut ((Ex.mut (y1.trans (x4.trans (x6.trans x7))) hp0).trans x8) hp0
          have hl8 : ((F'.set i (common c1 c2)).set j ((upFrom 0 m.toNat).filter fun t => decide (t ∈ c1) || decide (t ∈ c2))).length ≤ 16 := by rw [(hst rs0 hF0).len]; exact hl2
          refine k_setN (n_call1 (v_var (e := dU (dT dI)) rfl (.inl ⟨p, _, rfl, upd_same, hr8, by show _ ≤ 4000; omega⟩)) trivial) fun p' H9 xs' F2 hp' x9 hxs' hr' hl' hperm' => ?_
          have hst2 : ∀ rs, (∀ p, p ∈ F → IsCut m.toNat rs p) → Step m.toNat rs F' F2 := fun rs hF => (hst rs hF).perm hperm'
          have hp0' : H p' = none := fresh_back y8 hp'
          refine k_setP1 (p_call2V (v_var rfl (dI.up (y8.trans x9) ra)) (v_var rfl ⟨p', xs', rfl, hxs', hr', hl'⟩) ⟨hn0, by rw [(hst2 rs0 hF0).len]; omega, fun c hc' => hcl rs0 c ((hst2 rs0 hF0).cut c hc')⟩) fun v3' Ha o' xa ro' ho' => ?_
          exact ⟨p', xs', F2, o', v3', _, _, rfl, (y8.trans x9).trans xa, hp0', xa _ _ hxs', AllR.up xa hr', by rw [(hst2 rs0 hF0).len]; exact hl2, ro', ho', fun rs hF => ⟨(hst2 rs hF).cut, (hst2 rs hF).len.trans (hI rs hF).2.1, fun e => ((hst2 rs hF).use e).trans ((hI rs hF).2.2 e)⟩, (hst2 rs0 hF0).less⟩
  · have ho' : o = none := by
      cases o with
      | none => rfl
      | some _ => cases hb
    subst ho'
    have rL : (dL (dT dI)).r H4 (.ref p) F' := ⟨p, xs, rfl, x4 _ _ hxs, AllR.up x4 hr, by show _ ≤ 4000; omega⟩
    exact k_retV (v_tuple (v_var rfl rL)) fun z H5 x5 r5 => q z H5 F' ((y1.trans x4).trans x5) r5 fun rs hF => ⟨(hI rs hF).1, (hI rs hF).2.1, (hI rs hF).2.2, ho⟩
end Ow
-- OwF13
/-! Pens. -/
namespace Ow
open PySem PySem.Spec PyProof.Rows L2 Evl

/-- a pen, moved at most m times -/
def PenAt (p : Addr) (m : Nat) (H : Hp) : Prop := ∃ a b c : Int, H p = some (.lst [.int a, .int b, .int c]) ∧ 0 ≤ b ∧ b < 1000000007 ∧ 0 ≤ c ∧ c ≤ (m : Int)
theorem PenAt.up {p : Addr} {m : Nat} {H H' : Hp} (x : Ex H H') (h : PenAt p m H) : PenAt p m H' := by
  obtain ⟨a, b, c, h1, h2⟩ := h
  exact ⟨a, b, c, x _ _ h1, h2⟩
theorem PenAt.le {p : Addr} {m k : Nat} {H : Hp} (h : PenAt p m H) (l : m ≤ k) : PenAt p k H := by
  obtain ⟨a, b, c, h1, h2, h3, h4, h5⟩ := h
  exact ⟨a, b, c, h1, h2, h3, h4, by omega⟩
theorem PenAt.ne {p q : Addr} {m : Nat} {H : Hp} (h : PenAt p m H) (hq : H q = none) : q ≠ p := fun e => by
  obtain ⟨a, b, c, h1, _⟩ := h
  rw [e, h1] at hq
  cases hq
theorem PenAt.other {p q : Addr} {m : Nat} {H : Hp} {o : HO} (h : PenAt p m H) (n : q ≠ p) : PenAt p m (upd H q o) := by
  obtain ⟨a, b, c, h1, h2⟩ := h
  exact ⟨a, b, c, by rw [upd_ne (Ne.symm n)]; exact h1, h2⟩
theorem PenAt.tx {p : Addr} {m : Nat} {H H' : Hp} (h : PenAt p m H) (x : ExB p H H') : Tx H H' := by
  obtain ⟨a, b, c, h1, _⟩ := h
  exact x.tx h1
theorem rP {p : Addr} {a b c : Int} {H : Hp} (h : H p = some (.lst [.int a, .int b, .int c])) : (dL dI).r H (.ref p) [a, b, c] := ⟨p, _, rfl, h, allI' H [a, b, c], by show 3 ≤ 4000; omega⟩
theorem mulOk {i j : Int} (h0 : 0 ≤ i) (h1 : i < 1152921504606846976) (h2 : 0 ≤ j) (h3 : j < 1152921504606846976) : CMulW i j :=
  wide_mul (a := 60) (b := 60) (by have e : (2 : Nat) ^ 60 = 1152921504606846976 := by decide
                                   rw [e]; omega) (by have e : (2 : Nat) ^ 60 = 1152921504606846976 := by decide
                                                      rw [e]; omega) (by omega) (by omega) (by omega)
theorem divOk {i j : Int} (h2 : 0 < j) (h3 : j < 1152921504606846976) : CDivW i j :=
  wide_div (b := 60) h2 (by have e : (2 : Nat) ^ 60 = 1152921504606846976 := by decide
                            rw [e]; omega) (by omega) (by omega)

abbrev sp_law_draw  : Sp := fun vs H Q _ => ∃ (p : Addr) (m : Nat) (n : Int), vs = [.ref p, .int n] ∧ PenAt p m H ∧ m < 1000000000 ∧ 0 < n ∧ n < 1000000000 ∧ ∀ y H', ExB p H H' → PenAt p (m + 1) H' → 0 ≤ y → y < n → Q (.int y) H'
abbrev H_law_draw (P : Program) (w : World) (K : PySem.W.Frag) (mg : Str → Option Value) (base : Heap)  : Prop := FnAt P w K mg base "_law_draw" 1 ["_law_pen_here", "_law_count"] sp_law_draw
theorem draw_len : ∀ vs H Q E, sp_law_draw vs H Q E → vs.length = (["_law_pen_here", "_law_count"] : List Str).length := fun vs H Q E ⟨p, m, n, e, _⟩ => by rw [e]; rfl
theorem ok_law_draw {P : Program} {w : World} {K : PySem.W.Frag} {mg : Str → Option Value} {base : Heap}  (D : DefAt K mg "_law_draw" s_law_draw) (B : Bts mg)  : H_law_draw P w K mg base := by
  refine fnAt D sc_law_draw (fun _ _ _ _ _ _ us hl => match us, hl with | [_, _], _ => rfl) draw_len fun fad cdv A outer s H vs Q E hr h => ⟨_, PSs.nox (pss_cons (ps_if (pt_cmpR op_gt (pe_ix (kIx K) (pv 0) pe_int (fun _ _ => rfl)) pe_int (nomark _)) (pss_cons (ps_set (i := 2) sc_law_draw.nd rfl (by first | exact Or.inl rfl | exact Or.inr rfl) (pe_op op_mod (pe_ix (kIx K) (pv 0) pe_int (fun _ _ => rfl)) (pv 1)))
    (pss_cons (ps_asg (pe_op op_fdivW (pe_ix (kIx K) (pv 0) pe_int (fun _ _ => rfl)) (pv 1)) (pg_sub (pv 0) pe_int set_list))
    (pss_one (ps_ret (pv 2))))) pss_nil)
    (pss_cons (ps_asg (pe_op (kPlus K) (pe_ix (kIx K) (pv 0) pe_int (fun _ _ => rfl)) pe_int) (pg_sub (pv 0) pe_int set_list))
    (pss_cons (ps_set (i := 3) sc_law_draw.nd rfl (by first | exact Or.inl rfl | exact Or.inr rfl) (pe_op op_mod (pe_op op_mulW (pe_op (kPlus K) (pe_ix (kIx K) (pv 0) pe_int (fun _ _ => rfl)) (pe_op op_mulW pe_int (pe_ix (kIx K) (pv 0) pe_int (fun _ _ => rfl)))) (pe_op (kPlus K) pe_int (pe_op op_mulW pe_int (pe_ix (kIx K) (pv 0) pe_int (fun _ _ => rfl))))) pe_int))
    (pss_cons (ps_set (i := 3) sc_law_draw.nd rfl (by first | exact Or.inl rfl | exact Or.inr rfl) (pe_op op_mod (pe_op (kPlus K) (pe_op (kPlus K) (pe_op op_mulW (pv 3) (pv 3)) (pe_op op_mulW pe_int (pe_ix (kIx K) (pv 0) pe_int (fun _ _ => rfl)))) pe_int) pe_int))
    (pss_one (ps_ret (pe_op op_mod (pe_op op_fdivW (pe_op op_mod (pe_op op_mulW (pv 3) pe_int) pe_int) pe_int) (pv 1)))))))), ?_⟩
  obtain ⟨p, m, n, rfl, ⟨a, b, c, hp, hb0, hb1, hc0, hc1⟩, hm, hn0, hn1, q⟩ := h
  refine k_if (t_test (v_IB (v_ixL (v_var rfl (rP hp)) v_int (by decide) rfl) v_int)) (fun _ H1 x1 => ?_) fun _ H1 x1 => ?_
  · refine k_setV (v_IC (v_ixL (v_var rfl (rP (x1 _ _ hp))) v_int (by decide) rfl) (v_var (e := dI) rfl rfl) hn0) fun w H2 x2 r => ?_
    obtain rfl : w = V.int (a % n) := r
    refine kq_setI (f := dI) (b := a / n) (j := 0) rfl (x2 _ _ (x1 _ _ hp)) (v_IC (v_ixL (v_var rfl (rP (x2 _ _ (x1 _ _ hp)))) v_int (by decide) rfl) (v_var (e := dI) rfl rfl) (divOk hn0 (by omega))) v_int (by show _ < 3; decide) fun w H3 x3 r3 => ?_
    obtain rfl : w = V.int (a / n) := r3
    refine k_retV (v_var (e := dI) rfl rfl) fun w H4 x4 r4 => ?_
    obtain rfl : w = V.int (a % n) := r4
    exact q _ H4 (((ExB.of (x1.trans (x2.trans x3))).trans ExB.upd).trans (ExB.of x4)) ⟨a / n, b, c, x4 _ _ upd_same, hb0, hb1, hc0, by omega⟩ (Int.emod_nonneg _ (by omega)) (Int.emod_lt_of_pos _ hn0)
  · refine kq_setI (f := dI) (b := c + 1) (j := 2) rfl (x1 _ _ hp) (v_addI (v_ixL (v_var rfl (rP (x1 _ _ hp))) v_int (by decide) rfl) v_int) v_int (by show _ < 3; decide) fun w H3 x3 r3 => ?_
    obtain rfl : w = V.int (c + 1) := r3
    have h3 : upd H3 p (.lst (([.int a, .int b, .int c] : List V).set 2 (.int (c + 1)))) p = some (.lst [.int a, .int b, .int (c + 1)]) := upd_same
    generalize hg : upd H3 p (.lst (([.int a, .int b, .int c] : List V).set 2 (.int (c + 1)))) = H4 at h3 ⊢
    have y4 : ExB p H H4 := hg ▸ (ExB.of (x1.trans x3)).trans ExB.upd
    have rc : EvV dI (tOp (rIx K) (tVar 0) (tC (.int 2))) (start N_law_draw [.ref p, .int n]) H4 (c + 1) := v_ixL (v_var rfl (rP h3)) v_int (by decide) rfl
    have rb : EvV dI (tOp (rIx K) (tVar 0) (tC (.int 1))) (start N_law_draw [.ref p, .int n]) H4 b := v_ixL (v_var rfl (rP h3)) v_int (by decide) rfl
    refine k_setV (y := (b + 17 * (c + 1)) * (69621 + 2 * (c + 1)) % 2147483647) (v_IC (v_IC (v_addI rb (v_IC v_int rc (mulOk (by omega) (by omega) (by omega) (by omega)))) (v_addI v_int (v_IC v_int rc (mulOk (by omega) (by omega) (by omega) (by omega)))) (mulOk (by omega) (by omega) (by omega) (by omega))) v_int (by decide)) fun w H5 x5 r5 => ?_
    generalize hS : (b + 17 * (c + 1)) * (69621 + 2 * (c + 1)) % 2147483647 = S at r5
    have hS0 : 0 ≤ S := hS ▸ Int.emod_nonneg _ (by decide)
    have hS1 : S < 2147483647 := hS ▸ Int.emod_lt_of_pos _ (by decide)
    refine k_setV (y := (S * S + 40503 * (c + 1) + 5) % 2147483629) (v_IC (v_addI (v_addI (v_IC (v_var rfl r5) (v_var rfl r5) (mulOk (by omega) (by omega) (by omega) (by omega))) (v_IC v_int (v_ixL (v_var rfl (rP (x5 _ _ h3))) v_int (by decide) rfl) (mulOk (by omega) (by omega) (by omega) (by omega)))) v_int) v_int (by decide)) fun w2 H6 x6 r6 => ?_
    generalize hZ : (S * S + 40503 * (c + 1) + 5) % 2147483629 = Z at r6
    have hZ0 : 0 ≤ Z := hZ ▸ Int.emod_nonneg _ (by decide)
    have hZ1 : Z < 2147483629 := hZ ▸ Int.emod_lt_of_pos _ (by decide)
    refine k_retV (y := Z * 48271 % 2147483647 / 32 % n) (v_IC (v_IC (v_IC (v_IC (v_var rfl r6) v_int (mulOk (by omega) (by omega) (by omega) (by omega))) v_int (by decide)) v_int (divOk (by decide) (by decide))) (v_var (e := dI) rfl rfl) hn0) fun w H7 x7 r7 => ?_
    obtain rfl : w = V.int (Z * 48271 % 2147483647 / 32 % n) := r7
    exact q _ H7 (y4.trans (ExB.of (x5.trans (x6.trans x7)))) ⟨a, b, c + 1, x7 _ _ (x6 _ _ (x5 _ _ h3)), hb0, hb1, by omega, by omega⟩ (Int.emod_nonneg _ (by omega)) (Int.emod_lt_of_pos _ hn0)

/-! ### a new pen -/
abbrev sp_law_pen  : Sp := fun vs H Q _ => ∃ n : Int, vs = [.int n] ∧ ∀ p H', H p = none → Ex H H' → PenAt p 0 H' → Q (.ref p) H'
abbrev H_law_pen (P : Program) (w : World) (K : PySem.W.Frag) (mg : Str → Option Value) (base : Heap)  : Prop := FnAt P w K mg base "_law_pen" 1 ["_law_cell"] sp_law_pen
theorem pen_len : ∀ vs H Q E, sp_law_pen vs H Q E → vs.length = (["_law_cell"] : List Str).length := fun vs H Q E ⟨n, e, _⟩ => by rw [e]; rfl
theorem v_max2 {σ : L2.St} {H : Hp} {ta tb : TE} {i j : Int} (ha : EvV dI ta σ H i) (hb : EvV dI tb σ H j) : EvV dI (tCB (fun xs H Q => ∃ i j, xs = [.int i, .int j] ∧ Q (.int (if j > i then j else i)) H) (tCons ta (tCons tb tNil))) σ H (if j > i then j else i) := v_cb2 ha hb fun H2 v w _ r1 r2 Q q => ⟨i, j, by rw [show v = V.int i from r1, show w = V.int j from r2], q _ H2 (Ex.refl H2) rfl⟩
theorem v_min2 {σ : L2.St} {H : Hp} {ta tb : TE} {i j : Int} (ha : EvV dI ta σ H i) (hb : EvV dI tb σ H j) : EvV dI (tCB (fun xs H Q => ∃ i j, xs = [.int i, .int j] ∧ Q (.int (if j < i then j else i)) H) (tCons ta (tCons tb tNil))) σ H (if j < i then j else i) := v_cb2 ha hb fun H2 v w _ r1 r2 Q q => ⟨i, j, by rw [show v = V.int i from r1, show w = V.int j from r2], q _ H2 (Ex.refl H2) rfl⟩
theorem k_retPen {σ : L2.St} {H : Hp} {D : Ends} {ta tb tc : TE} {a b c : Int} (ha : EvV dI ta σ H a) (hb : EvV dI tb σ H b) (hc : EvV dI tc σ H c) (k : ∀ p H1, H p = none → Ex H H1 → H1 p = some (.lst [.int a, .int b, .int c]) → D.rt (.ref p) H1) : tRet (tLst (tCons ta (tCons tb (tCons tc tNil)))) D σ H :=
  ha H (Ex.refl H) _ fun v1 H1 x1 r1 => hb H1 x1 _ fun v2 H2 x2 r2 => hc H2 (x1.trans x2) _ fun v3 H3 x3 r3 => ⟨by show 3 ≤ sizeLine; decide, fun p hp => k p _ (fresh_back ((x1.trans x2).trans x3) hp) (((x1.trans x2).trans x3).trans (Ex.new hp)) (by rw [upd_same, show v1 = V.int a from r1, show v2 = V.int b from r2, show v3 = V.int c from r3])⟩
theorem ok_law_pen {P : Program} {w : World} {K : PySem.W.Frag} {mg : Str → Option Value} {base : Heap}  (D : DefAt K mg "_law_pen" s_law_pen) (B : Bts mg)  : H_law_pen P w K mg base := by
  refine fnAt D sc_law_pen (fun _ _ _ _ _ _ us hl => match us, hl with | [_], _ => rfl) pen_len fun fad cdv A outer s H vs Q E hr h => ⟨_, PSs.nox (pss_one (ps_ret (pe_lst (pa_cons (pe_callB (call_max2 rfl) (by rfl) B.max (by decide +kernel) (pa_cons pe_int (pa_cons (pe_op op_sub (pv 0) (pe_op op_pow pe_int pe_int)) pa_nil))) (pa_cons (pe_op op_mod (pv 0) pe_int) (pa_cons pe_int pa_nil)))))), ?_⟩
  obtain ⟨n, rfl, q⟩ := h
  have w1 : EvV dI (tOp (rI CPow fun i j => .int (i ^ j.toNat)) (tC (.int 10)) (tC (.int 18))) (start N_law_pen [.int n]) H ((10 : Int) ^ (18 : Int).toNat) := v_IC v_int v_int ⟨by decide, by decide, by decide⟩
  have w2 : ∀ H, EvV dI (tVar 0) (start N_law_pen [.int n]) H n := fun H => v_var (e := dI) rfl rfl
  exact k_retPen (v_max2 v_int (v_I0 (w2 H) w1)) (v_IC (w2 H) v_int (by decide)) v_int fun p H1 hp x h1 => q p H1 hp x ⟨_, _, _, h1, Int.emod_nonneg _ (by decide), Int.emod_lt_of_pos _ (by decide), Int.le_refl _, Int.le_refl _⟩
end Ow
-- OwF14
/-! What draws. -/
namespace Ow
open PySem PySem.Spec PyProof.Rows L2 Evl

section
variable {α β γ : Type} {K : PySem.W.Frag} {σ : L2.St} {H H' : Hp} {te ta tb tc : TE} {t u : TT} {e : Rl α} {f : Rl β} {g : Rl γ} {D : Ends} {tu tw tz : TS} {p : Addr} {k k' : Nat}
/-- it moves the pen -/
def EvD (p : Addr) (f : Rl β) (te : TE) (σ : L2.St) (H : Hp) (k : Nat) (P : β → Prop) : Prop := ∀ Q : VK, (∀ w H2 y, ExB p H H2 → PenAt p k H2 → f.r H2 w y → P y → Q w H2) → te σ H Q
def EvDT (p : Addr) (t : TT) (σ : L2.St) (H : Hp) (k : Nat) : Prop := ∀ Q : Bool → Hp → Prop, (∀ b H2, ExB p H H2 → PenAt p k H2 → Q b H2) → t σ H Q
theorem EvP.d {P : β → Prop} (h : EvP f te σ H P) (hp : PenAt p k H) : EvD p f te σ H k P := fun Q q => h H (Ex.refl H) Q fun w H2 y x r py => q w H2 y (ExB.of x) (hp.up x) r py
theorem EvV.d {y : β} (h : EvV f te σ H y) (hp : PenAt p k H) : EvD p f te σ H k (fun z => z = y) := (h.p (P := fun z => z = y) rfl).d hp
theorem EvT.d {b : Bool} (h : EvT t σ H b) (hp : PenAt p k H) : EvDT p t σ H k := fun Q q => h H (Ex.refl H) Q fun H2 x => q b H2 (ExB.of x) (hp.up x)
theorem EvD.imp {P P' : β → Prop} (h : EvD p f te σ H k P) (hi : ∀ y, P y → P' y) : EvD p f te σ H k P' := fun Q q => h Q fun w H2 y x hp r py => q w H2 y x hp r (hi y py)
theorem EvD.le {P : β → Prop} (h : EvD p f te σ H k P) (l : k ≤ k') : EvD p f te σ H k' P := fun Q q => h Q fun w H2 y x hp r py => q w H2 y x (hp.le l) r py
theorem EvDT.le (h : EvDT p t σ H k) (l : k ≤ k') : EvDT p t σ H k' := fun Q q => h Q fun b H2 x hp => q b H2 x (hp.le l)
theorem d_draw {E : XK} {i : Nat} {n : Int} (hv : σ[i]? = some (some (.ref p))) (hn : EvV dI te σ H n) (hp : PenAt p k H) (hk : k < 1000000000) (h0 : 0 < n) (h1 : n < 1000000000) : EvD p dI (tCall sp_law_draw [] E (tCons (tVar i) (tCons te tNil))) σ H (k + 1) (fun y => 0 ≤ y ∧ y < n) := fun Q q =>
  ⟨.ref p, hv, hn H (Ex.refl H) _ fun v H1 x r => ⟨p, k, n, by rw [show v = V.int n from r]; rfl, hp.up x, hk, h0, h1, fun y H2 x2 hp2 y0 y1 => q _ H2 y ((ExB.of x).trans x2) hp2 rfl ⟨y0, y1⟩⟩⟩
/-- an operation on ints -/
def OpI (r : R2) (C : Int → Int → Prop) (gg : Int → Int → Int) : Prop := ∀ i j H (Q : VK), C i j → Q (.int (gg i j)) H → r (.int i) (.int j) H Q
theorem oI0 {gg : Int → Int → Int} : OpI (rI0 fun i j => .int (gg i j)) (fun _ _ => True) gg := fun i j H Q _ q => ⟨i, j, rfl, rfl, q⟩
theorem oIC {C : Int → Int → Prop} {gg : Int → Int → Int} : OpI (rI C fun i j => .int (gg i j)) C gg := fun i j H Q c q => ⟨i, j, rfl, rfl, c, q⟩
theorem oAdd : OpI (rPlus K) (fun _ _ => True) (fun i j => i + j) := fun i j H Q _ q => .inl ⟨i, j, rfl, rfl, q⟩
theorem d_op {r : R2} {C : Int → Int → Prop} {gg : Int → Int → Int} {A : Int → Prop} {B : Int → Int → Prop} (o : OpI r C gg) (ha : EvD p dI ta σ H k A) (hb : ∀ H1 a, ExB p H H1 → PenAt p k H1 → A a → EvD p dI tb σ H1 k' (B a)) (hc : ∀ a b, A a → B a b → C a b) : EvD p dI (tOp r ta tb) σ H k' (fun c => ∃ a b, A a ∧ B a b ∧ c = gg a b) := fun Q q =>
  ha _ fun v H1 a x1 hp1 r1 pa => hb H1 a x1 hp1 pa _ fun w H2 b x2 hp2 r2 pb => by
    rw [show v = V.int a from r1, show w = V.int b from r2]
    exact o a b H2 Q (hc a b pa pb) (q _ H2 _ (x1.trans x2) hp2 rfl ⟨a, b, pa, pb, rfl⟩)
theorem dt_any {r : R2} {gb : Int → Int → Bool} {A B : Int → Prop} (hr : ∀ i j H (Q : VK), Q (.bl (gb i j)) H → r (.int i) (.int j) H Q) (ha : EvD p dI ta σ H k A) (hb : ∀ H1, ExB p H H1 → PenAt p k H1 → EvD p dI tb σ H1 k' B) : EvDT p (tTest (tOp r ta tb)) σ H k' := fun Q q =>
  ha _ fun v H1 a x1 hp1 r1 pa => hb H1 x1 hp1 _ fun w H2 b x2 hp2 r2 pb => by
    rw [show v = V.int a from r1, show w = V.int b from r2]
    exact hr a b H2 _ ⟨_, rfl, q _ H2 (x1.trans x2) hp2⟩
theorem rIB {gb : Int → Int → Bool} : ∀ i j H (Q : VK), Q (.bl (gb i j)) H → (rI0 fun i j => .bl (gb i j)) (.int i) (.int j) H Q := fun i j H Q q => ⟨i, j, rfl, rfl, q⟩
theorem dt_or (h : EvDT p t σ H k) (h2 : ∀ H1, ExB p H H1 → PenAt p k H1 → EvDT p u σ H1 k') (l : k ≤ k') : EvDT p (tOr t u) σ H k' := fun Q q => h _ fun b H1 x hp => by
  cases b with
  | true => exact q true H1 x (hp.le l)
  | false => exact h2 H1 x hp Q fun b H2 x2 hp2 => q b H2 (x.trans x2) hp2
theorem dt_and (h : EvDT p t σ H k) (h2 : ∀ H1, ExB p H H1 → PenAt p k H1 → EvDT p u σ H1 k') (l : k ≤ k') : EvDT p (tAnd t u) σ H k' := fun Q q => h _ fun b H1 x hp => by
  cases b with
  | true => exact h2 H1 x hp Q fun b H2 x2 hp2 => q b H2 (x.trans x2) hp2
  | false => exact q false H1 x (hp.le l)
theorem d_if {P : β → Prop} (h : EvDT p t σ H k) (h1 : ∀ H1, ExB p H H1 → PenAt p k H1 → EvP f ta σ H1 P) (h2 : ∀ H1, ExB p H H1 → PenAt p k H1 → EvP f tb σ H1 P) : EvD p f (tIf t ta tb) σ H k P := fun Q q => h _ fun b H1 x hp => by
  cases b with
  | true => exact h1 H1 x hp H1 (Ex.refl H1) Q fun w H2 y x2 r py => q w H2 y (x.trans (ExB.of x2)) (hp.up x2) r py
  | false => exact h2 H1 x hp H1 (Ex.refl H1) Q fun w H2 y x2 r py => q w H2 y (x.trans (ExB.of x2)) (hp.up x2) r py
theorem kd_set {i : Nat} {P : β → Prop} (h : EvD p f te σ H k P) (q : ∀ w H1 y, ExB p H H1 → PenAt p k H1 → f.r H1 w y → P y → tz D (σ.set i (some w)) H1) : tSeq (tAsg te (gName i)) tz D σ H := h _ q
theorem kd_ret {P : β → Prop} (h : EvD p f te σ H k P) (q : ∀ w H1 y, ExB p H H1 → PenAt p k H1 → f.r H1 w y → P y → D.rt w H1) : tRet te D σ H := h _ q
theorem kd_par {i j : Nat} {A : Int → Prop} {B : Int → Int → Prop} (ha : EvD p dI ta σ H k A) (hb : ∀ H1 a, ExB p H H1 → PenAt p k H1 → A a → EvD p dI tb σ H1 k' (B a)) (q : ∀ H1 a b, ExB p H H1 → PenAt p k' H1 → A a → B a b → tz D ((σ.set i (some (.int a))).set j (some (.int b))) H1) : tSeq (tPar i j (tCons ta (tCons tb tNil))) tz D σ H :=
  ha _ fun v H1 a x1 hp1 r1 pa => hb H1 a x1 hp1 pa _ fun w H2 b x2 hp2 r2 pb => ⟨v, w, rfl, by
    rw [show v = V.int a from r1, show w = V.int b from r2]
    exact q H2 a b (x1.trans x2) hp2 pa pb⟩
theorem kd_app {i : Nat} {q : Addr} {xs : List V} {P : β → Prop} (hv : σ[i]? = some (some (.ref q))) (hq : H q = some (.lst xs)) (ne : q ≠ p) (hz : xs.length < 100000) (h : EvD p f te σ H k P) (kk : ∀ w H1 y, ExB p H H1 → PenAt p k H1 → f.r H1 w y → P y → D.nx σ (upd H1 q (.lst (xs ++ [w])))) :
    tDrop (tBM K "list" rAppend (tVar i) (tCons te tNil)) D σ H :=
  ⟨_, hv, .inl ⟨rfl, xs, sq_of hq⟩, h _ fun w H1 y x hp r py => ⟨q, xs, w, rfl, rfl, x q _ ne hq, sz_lt hz, kk w H1 y x hp r py⟩⟩
/-- xs.append(ys.pop(draw)) -/
theorem kd_appPop {i j : Nat} {q q' : Addr} {xs ys : List V} {P : Int → Prop} (hv : σ[i]? = some (some (.ref q))) (hq : H q = some (.lst xs)) (ne : q ≠ p) (hz : xs.length < 100000) (hv' : σ[j]? = some (some (.ref q'))) (hq' : H q' = some (.lst ys)) (ne' : q' ≠ p) (nn : q ≠ q') (hz' : ys.length < 100000)
    (h : EvD p dI te σ H k fun y => 0 ≤ y ∧ y < (ys.length : Int)) (kk : ∀ H1 (m : Nat) w, ExB p H H1 → PenAt p k H1 → ys[m]? = some w → D.nx σ (upd (upd H1 q' (.lst (ys.eraseIdx m))) q (.lst (xs ++ [w])))) :
    tDrop (tBM K "list" rAppend (tVar i) (tCons (tBM K "list" rPopAt (tVar j) (tCons te tNil)) tNil)) D σ H :=
  ⟨_, hv, .inl ⟨rfl, xs, sq_of hq⟩, ⟨_, hv', .inl ⟨rfl, ys, sq_of hq'⟩, h _ fun w H1 y x hp r ⟨y0, y1⟩ => by
    obtain rfl : w = V.int y := r
    obtain ⟨m, hm⟩ : ∃ m : Nat, y.toNat = m := ⟨_, rfl⟩
    have lm : m < ys.length := by omega
    refine ⟨q', ys, y, m, ys[m], rfl, rfl, x q' _ ne' hq', by omega, by omega, by rw [PySem.seqIndex_of y0 y1, hm], List.getElem?_eq_getElem lm, ?_⟩
    exact ⟨q, xs, ys[m], rfl, rfl, by rw [upd_ne nn]; exact x q _ ne hq, sz_lt hz, kk H1 m _ x hp (List.getElem?_eq_getElem lm)⟩⟩⟩
theorem kd_forR1 {j : Nat} {P : Int → Prop} (hn : EvD p dI ta σ H k P) (b1 : ∀ n, P n → 0 ≤ n ∧ n ≤ 100000) (Pv : Int → Nat → L2.St → Hp → Prop) (h0 : ∀ H1 n, ExB p H H1 → PenAt p k H1 → P n → Pv n 0 σ H1)
    (step : ∀ n (i : Nat) σ' H1, P n → i < n.toNat → Pv n i σ' H1 → tu { D with nx := Pv n (i + 1), ct := Pv n (i + 1), bk := tz D } (σ'.set j (some (.int (i : Int)))) H1)
    (hd : ∀ n σ' H1, P n → Pv n n.toNat σ' H1 → tz D σ' H1) : tSeq (tFor (iRng1 (tCons ta tNil)) (gName j) tu) tz D σ H := hn _ fun v H1 n x hp r pn =>
  ⟨n, by rw [show v = V.int n from r], by have := b1 n pn; omega, by have := b1 n pn; omega, for_range (D := { D with nx := tz D }) (lo := 0) (n := n.toNat) (Pv n) (h0 H1 n x hp pn) (fun i σ' H2 hi pp => by
    have e0 : (0 : Int) + (i : Int) = (i : Int) := Int.zero_add _
    show tu { D with nx := Pv n (i + 1), ct := Pv n (i + 1), bk := tz D } (σ'.set j (some (.int ((0 : Int) + (i : Int))))) H2
    rw [e0]
    exact step n i σ' H2 pn hi pp) (fun σ' H2 h => hd n σ' H2 pn h)⟩
theorem exb_mut {o : HO} {q : Addr} {H0 : Hp} (x : ExB p H0 H) (h : H0 q = none) : ExB p H0 (upd H q o) := fun a u n z => by
  have ne : a ≠ q := fun e => by rw [e, h] at z; cases z
  rw [upd_ne ne]
  exact x a u n z
end

abbrev sp_law_road  : Sp := fun vs H Q _ => ∃ (p : Addr) (m : Nat) (n : Int), vs = [.ref p, .int n] ∧ PenAt p m H ∧ m < 100000000 ∧ 2 ≤ n ∧ n < 1000 ∧ ∀ w y H', ExB p H H' → PenAt p (m + 2) H' → (dP dI dI).r H' w y → 0 ≤ y.1 → y.1 < n → 0 ≤ y.2 → y.2 < n → y.1 ≠ y.2 → Q w H'
abbrev H_law_road (P : Program) (w : World) (K : PySem.W.Frag) (mg : Str → Option Value) (base : Heap)  : Prop := FnAt P w K mg base "_law_road" 2 ["_law_pen_here", "_law_many"] sp_law_road
theorem road_len : ∀ vs H Q E, sp_law_road vs H Q E → vs.length = (["_law_pen_here", "_law_many"] : List Str).length := fun vs H Q E ⟨p, m, n, e, _⟩ => by rw [e]; rfl
theorem ok_law_road {P : Program} {w : World} {K : PySem.W.Frag} {mg : Str → Option Value} {base : Heap}  (D : DefAt K mg "_law_road" s_law_road) (B : Bts mg) (h_law_draw : H_law_draw P w K mg base)  : H_law_road P w K mg base := by
  refine fnAt D sc_law_road (fun _ _ _ _ _ _ us hl => match us, hl with | [_, _], _ => rfl) road_len fun fad cdv A outer s H vs Q E hr h => ⟨_, PSs.nox (pss_cons (ps_set (i := 2) sc_law_road.nd rfl (by first | exact Or.inl rfl | exact Or.inr rfl) (pcall h_law_draw hr (by decide) rfl (pa_cons (pv 0) (pa_cons (pv 1) pa_nil))))
    (pss_cons (ps_set (i := 3) sc_law_road.nd rfl (by first | exact Or.inl rfl | exact Or.inr rfl) (pe_op op_mod (pe_op (kPlus K) (pe_op (kPlus K) (pv 2) pe_int) (pcall h_law_draw hr (by decide) rfl (pa_cons (pv 0) (pa_cons (pe_op op_sub (pv 1) pe_int) pa_nil)))) (pv 1)))
    (pss_one (ps_ret (pe_tup (pa_cons (pv 2) (pa_cons (pv 3) pa_nil))))))), ?_⟩
  obtain ⟨p, m, n, rfl, hp, hm, hn0, hn1, q⟩ := h
  refine kd_set (d_draw rfl (v_var (e := dI) rfl rfl) hp (by omega) (by omega) (by omega)) fun w H1 a x1 hp1 r1 ⟨a0, a1⟩ => ?_
  obtain rfl : w = V.int a := r1
  refine kd_set (d_op oIC (d_op (B := fun _ b => 0 ≤ b ∧ b < n - 1) oAdd ((v_addI (v_var (e := dI) rfl rfl) v_int).d hp1) (fun H2 b x2 hp2 _ => d_draw rfl (v_I0 (v_var (e := dI) rfl rfl) v_int) hp2 (by omega) (by omega) (by omega)) fun _ _ _ _ => trivial) (fun H2 b x2 hp2 _ => (v_var (e := dI) rfl rfl).d hp2) fun a b _ hb => by rw [hb]; omega) fun w H2 y x2 hp2 r2 py => ?_
  obtain ⟨s, n', ⟨a', b, ea, ⟨b0, b1⟩, es⟩, en, ey⟩ := py
  have en := en.symm
  subst ea
  subst es
  subst en
  subst ey
  have e := Int.emod_add_mul_ediv (a + 1 + b) n
  have l0 := Int.emod_nonneg (a + 1 + b) (show n ≠ 0 by omega)
  have l1 := Int.emod_lt_of_pos (a + 1 + b) (show 0 < n by omega)
  refine k_retV (v_pair (v_var (e := dI) rfl rfl) (v_var rfl r2)) fun w H3 x3 r3 => q w _ H3 ((x1.trans x2).trans (ExB.of x3)) (hp2.up x3) r3 a0 a1 l0 l1 fun h => ?_
  have h : a = (a + 1 + b) % n := h
  generalize hg : (a + 1 + b) / n = d at e
  rw [← h] at e
  have e2 : n * d = 1 + b := by omega
  rcases Int.lt_or_le d 1 with hd | hd
  · have : n * d ≤ 0 := Int.mul_nonpos_of_nonneg_of_nonpos (by omega) (by omega)
    omega
  · have : n * 1 ≤ n * d := Int.mul_le_mul_of_nonneg_left hd (by omega)
    omega

abbrev sp_law_pick  : Sp := fun vs H Q _ => ∃ (p : Addr) (m : Nat) (v : V) (l : List Pl), vs = [.ref p, v] ∧ PenAt p m H ∧ m < 100000000 ∧ (dL (dT dI)).r H v l ∧ 0 < l.length ∧ ∀ w y H', ExB p H H' → PenAt p (m + 1) H' → (dT dI).r H' w y → y ∈ l → Q w H'
abbrev H_law_pick (P : Program) (w : World) (K : PySem.W.Frag) (mg : Str → Option Value) (base : Heap)  : Prop := FnAt P w K mg base "_law_pick" 2 ["_law_pen_here", "_law_some"] sp_law_pick
theorem pick_len : ∀ vs H Q E, sp_law_pick vs H Q E → vs.length = (["_law_pen_here", "_law_some"] : List Str).length := fun vs H Q E ⟨p, m, n, l, e, _⟩ => by rw [e]; rfl
theorem dL_exb {α : Type} {e : Rl α} (i : Im e) {p : Addr} {k : Nat} {H H' : Hp} {v : V} {l : List α} (x : ExB p H H') (hp : PenAt p k H) (ne : v ≠ .ref p) (r : (dL e).r H v l) : (dL e).r H' v l := by
  obtain ⟨q, xs, rfl, h1, h2, h3⟩ := r
  exact ⟨q, xs, rfl, x q _ (fun z => ne (by rw [z])) h1, AllR.im i (hp.tx x) h2, h3⟩
theorem pen_ne {p : Addr} {k : Nat} {H : Hp} {v : V} {l : List Pl} (hp : PenAt p k H) (r : (dL (dT dI)).r H v l) : v ≠ .ref p := by
  rintro rfl
  obtain ⟨a, b, c, h, _⟩ := hp
  obtain ⟨q, xs, e, h1, h2, _⟩ := r
  cases e
  rw [h] at h1
  cases h1
  cases h2 with
  | cons r _ =>
    obtain ⟨_, _, z, _⟩ := r
    cases z
theorem ok_law_pick {P : Program} {w : World} {K : PySem.W.Frag} {mg : Str → Option Value} {base : Heap}  (D : DefAt K mg "_law_pick" s_law_pick) (B : Bts mg) (h_law_draw : H_law_draw P w K mg base)  : H_law_pick P w K mg base := by
  refine fnAt D sc_law_pick (fun _ _ _ _ _ _ us hl => match us, hl with | [_, _], _ => rfl) pick_len fun fad cdv A outer s H vs Q E hr h => ⟨_, PSs.nox (pss_one (ps_ret (pe_ix (kIx K) (pv 1) (pcall h_law_draw hr (by decide) rfl (pa_cons (pv 0) (pa_cons (pe_callB (kLen K) (by rfl) B.len PySem.boot_len (pa_cons (pv 1) pa_nil)) pa_nil))) (fun _ _ => rfl)))), ?_⟩
  obtain ⟨p, m, v, l, rfl, hp, hm, rl, hl, q⟩ := h
  have hne := pen_ne hp rl
  have hlim := dL_len rl
  have hlim : l.length ≤ 4000 := hlim
  refine ⟨v, rfl, ?_⟩
  refine (d_draw rfl (v_lenL (v_var rfl rl)) hp (by omega) (by omega) (by omega)) _ fun w H1 a x1 hp1 r1 ⟨a0, a1⟩ => ?_
  obtain rfl : w = V.int a := r1
  obtain ⟨q', xs, rfl, h1, h2, h3⟩ := dL_exb (im_T im_I) x1 hp hne rl
  obtain ⟨x, hx, rx⟩ := pd_get' h2 (List.getElem?_eq_getElem (show a.toNat < l.length by omega))
  exact .inl ⟨q', xs, a, x, rfl, rfl, sq_of h1, at_of (by omega) hx, q x _ H1 x1 hp1 rx (List.getElem_mem _)⟩
end Ow
-- OwF15
/-! A net drawn. -/
namespace Ow
open PySem PySem.Spec PyProof.Rows L2 Evl

/-! ### the plain law -/
def Span (n : Nat) (l : List Road) : Prop := ∀ t : Int, 1 ≤ t → t < (n : Int) → ∃ b, 0 ≤ b ∧ b < t ∧ ((b, t) ∈ l ∨ (t, b) ∈ l)
theorem Span.conn {n : Nat} {l : List Road} (h : Span n l) (S : Int → Prop) (hs : ∀ r, r ∈ l → (S r.1 ↔ S r.2)) : ∀ k : Nat, k < n → (S (k : Int) ↔ S 0) := by
  intro k
  induction k using Nat.strongRecOn with
  | ind k ih =>
    intro hk
    by_cases h0 : k = 0
    · subst h0
      exact Iff.rfl
    · obtain ⟨b, b0, b1, hb⟩ := h (k : Int) (by omega) (by omega)
      have e := ih b.toNat (by omega) (by omega)
      have eb : (b.toNat : Int) = b := Int.toNat_of_nonneg b0
      rw [eb] at e
      rcases hb with hb | hb
      · exact (hs _ hb).symm.trans e
      · exact (hs _ hb).trans e
abbrev DifR (l : List Road) : Prop := ∀ r, r ∈ l → r.1 ≠ r.2
abbrev RdsOk (n : Nat) (l : List Road) : Prop := ∀ r, r ∈ l → inR n r.1 ∧ inR n r.2 ∧ r.1 ≠ r.2
/-- places renamed, roads mixed -/
theorem renamed {n : Nat} {l l' : List Road} {nm : List Int} (ro2 : RdsOk n l) (sp : Span n l) (hp : l'.Perm l) (hn : nm.Perm (upto n)) :
    RoadsOk n (l'.map fun r => (nm.getD r.1.toNat 0, nm.getD r.2.toNat 0)) ∧ Conn n (l'.map fun r => (nm.getD r.1.toNat 0, nm.getD r.2.toNat 0)) ∧ DifR (l'.map fun r => (nm.getD r.1.toNat 0, nm.getD r.2.toNat 0)) := by
  have ro : RoadsOk n l := fun r hr => ⟨(ro2 r hr).1, (ro2 r hr).2.1⟩
  have ndp : nm.Nodup := hn.nodup_iff.mpr (asc_upto n).nodup
  have ln : nm.length = n := by rw [hn.length_eq]; unfold upto; rw [List.length_map, List.length_range]
  have mem : ∀ x, x ∈ nm ↔ inR n x := fun x => by
    rw [hn.mem_iff]
    unfold upto
    rw [List.mem_map]
    constructor
    · rintro ⟨a, ha, rfl⟩
      have := List.mem_range.mp ha
      exact ⟨by show (0 : Int) ≤ (a : Int); omega, by show (a : Int) < (n : Int); omega⟩
    · rintro ⟨h0, h1⟩
      exact ⟨x.toNat, List.mem_range.mpr (by omega), by show ((x.toNat : Nat) : Int) = x; omega⟩
  have get : ∀ i : Nat, i < n → nm.getD i 0 ∈ nm := fun i hi => by
    rw [List.getD_eq_getElem?_getD, List.getElem?_eq_getElem (by omega)]
    exact List.getElem_mem _
  have lo : ∀ x, inR n x → x.toNat < n := fun x hx => by
    have h0 : 0 ≤ x := hx.1
    have h1 : x < (n : Int) := hx.2
    omega
  refine ⟨?_, ?_, ?_⟩
  · rintro r hr
    obtain ⟨q, hq, rfl⟩ := List.mem_map.mp hr
    have := ro q (hp.mem_iff.mp hq)
    exact ⟨(mem _).mp (get _ (lo _ this.1)), (mem _).mp (get _ (lo _ this.2))⟩
  · rintro S ⟨x, hx, sx⟩ hS y hy
    have key := sp.conn (fun i => S (nm.getD i.toNat 0)) fun r hr => hS _ (List.mem_map.mpr ⟨r, hp.mem_iff.mpr hr, rfl⟩)
    have all : ∀ z, inR n z → (S z ↔ S (nm.getD 0 0)) := fun z hz => by
      obtain ⟨i, hi, rfl⟩ := List.getElem_of_mem ((mem z).mpr hz)
      have := key i (by omega)
      have e : nm.getD ((i : Int)).toNat 0 = nm[i] := by
        rw [List.getD_eq_getElem?_getD, show ((i : Int)).toNat = i from rfl, List.getElem?_eq_getElem hi]
        rfl
      rw [e] at this
      exact this
    exact (all y hy).mpr ((all x hx).mp sx)
  · rintro r hr
    obtain ⟨q, hq, rfl⟩ := List.mem_map.mp hr
    obtain ⟨h1, h2, h3⟩ := ro2 q (hp.mem_iff.mp hq)
    show nm.getD q.1.toNat 0 ≠ nm.getD q.2.toNat 0
    intro e
    have l1 := lo _ h1
    have l2 := lo _ h2
    rw [List.getD_eq_getElem?_getD, List.getD_eq_getElem?_getD, List.getElem?_eq_getElem (by omega), List.getElem?_eq_getElem (by omega)] at e
    have e : nm[q.1.toNat]'(by omega) = nm[q.2.toNat]'(by omega) := e
    have pw := List.pairwise_iff_getElem.mp ndp
    have e2 : q.1.toNat = q.2.toNat := by
      rcases Nat.lt_trichotomy q.1.toNat q.2.toNat with z | z | z
      · exact absurd e (pw _ _ (by omega) (by omega) z)
      · exact z
      · exact absurd e.symm (pw _ _ (by omega) (by omega) z)
    have i1 : 0 ≤ q.1 := h1.1
    have i2 : 0 ≤ q.2 := h2.1
    exact h3 (by omega)

theorem pop_perm {α : Type} {l : List α} {m : Nat} {x : α} (h : l[m]? = some x) : (x :: l.eraseIdx m).Perm l := by
  obtain ⟨hm, rfl⟩ := List.getElem?_eq_some_iff.mp h
  rw [List.eraseIdx_eq_take_drop_succ]
  refine (List.perm_middle (a := l[m]) (l₁ := l.take m) (l₂ := l.drop (m + 1))).symm.trans ?_
  rw [← List.drop_eq_getElem_cons hm, List.take_append_drop]
theorem pop_perm2 {α : Type} {l done : List α} {m : Nat} {x : α} (h : l[m]? = some x) : ((done ++ [x]) ++ l.eraseIdx m).Perm (done ++ l) := by
  rw [List.append_assoc]
  exact List.Perm.append_left _ (pop_perm h)
section
variable {α β γ : Type} {K : PySem.W.Frag} {σ : L2.St} {H H' : Hp} {te ta tb tc : TE} {t u : TT} {e : Rl α} {f : Rl β} {g : Rl γ} {D : Ends} {tu tw tz : TS} {p : Addr} {k k' : Nat}
theorem d_road {E : XK} {i : Nat} {n : Int} (hv : σ[i]? = some (some (.ref p))) (hn : EvV dI te σ H n) (hp : PenAt p k H) (hk : k < 100000000) (h0 : 2 ≤ n) (h1 : n < 1000) : EvD p (dP dI dI) (tCall sp_law_road [] E (tCons (tVar i) (tCons te tNil))) σ H (k + 2) (fun y => 0 ≤ y.1 ∧ y.1 < n ∧ 0 ≤ y.2 ∧ y.2 < n ∧ y.1 ≠ y.2) := fun Q q =>
  ⟨.ref p, hv, hn H (Ex.refl H) _ fun v H1 x r => ⟨p, k, n, by rw [show v = V.int n from r]; rfl, hp.up x, hk, h0, h1, fun w y H2 x2 hp2 r2 a b c d ne => q w H2 y ((ExB.of x).trans x2) hp2 r2 ⟨a, b, c, d, ne⟩⟩⟩
theorem kd_if (h : EvDT p t σ H k) (h1 : ∀ H1, ExB p H H1 → PenAt p k H1 → tu { D with nx := tz D } σ H1) (h2 : ∀ H1, ExB p H H1 → PenAt p k H1 → tz D σ H1) : tSeq (tIfS t tu tNext) tz D σ H := h _ fun b H1 x hp => by
  cases b with
  | true => exact h1 H1 x hp
  | false => exact h2 H1 x hp
theorem kn_par {i j : Nat} {P : List α → Prop} {P2 : List β → Prop} (h1 : EvN e ta σ H P) (h2 : ∀ H1, Ex H H1 → EvN f tb σ H1 P2) (kk : ∀ p1 p2 H2 xs ys y z, H p1 = none → H p2 = none → p1 ≠ p2 → Ex H H2 → H2 p1 = some (.lst xs) → H2 p2 = some (.lst ys) → AllR e H2 xs y → AllR f H2 ys z → y.length ≤ lim → z.length ≤ lim → P y → P2 z → tz D ((σ.set i (some (.ref p1))).set j (some (.ref p2))) H2) : tSeq (tPar i j (tCons ta (tCons tb tNil))) tz D σ H :=
  h1 H (Ex.refl H) _ fun p1 H1 xs y hp1 x1 hx1 r1 l1 py => h2 H1 x1 H1 (Ex.refl H1) _ fun p2 H2 ys z hp2 x2 hx2 r2 l2 pz => ⟨_, _, rfl, kk p1 p2 H2 xs ys y z hp1 (fresh_back x1 hp2) (fun e => by rw [e, hp2] at hx1; cases hx1) (x1.trans x2) (x2 _ _ hx1) hx2 (AllR.up x2 r1) r2 l1 l2 py pz⟩
theorem kn_tup {i j : Nat} {P : List α → Prop} {P2 : List β → Prop} (h1 : EvN e ta σ H P) (h2 : ∀ H1, Ex H H1 → EvN f tb σ H1 P2) (kk : ∀ p1 p2 H2 xs ys y z, H p1 = none → H p2 = none → p1 ≠ p2 → Ex H H2 → H2 p1 = some (.lst xs) → H2 p2 = some (.lst ys) → AllR e H2 xs y → AllR f H2 ys z → y.length ≤ lim → z.length ≤ lim → P y → P2 z → tz D ((σ.set i (some (.ref p1))).set j (some (.ref p2))) H2) :
    tSeq (tAsg (tTup (tCons ta (tCons tb tNil))) (gTup K 2 (gCons (gName i) (gCons (gName j) gNil)))) tz D σ H :=
  h1 H (Ex.refl H) _ fun p1 H1 xs y hp1 x1 hx1 r1 l1 py => h2 H1 x1 H1 (Ex.refl H1) _ fun p2 H2 ys z hp2 x2 hx2 r2 l2 pz => ⟨by show 2 ≤ sizeLine; decide, fun q hq => ⟨q, [.ref p1, .ref p2], rfl, st_of upd_same, rfl, .ref p1, [.ref p2], rfl, .ref p2, [], rfl, rfl,
    kk p1 p2 _ xs ys y z hp1 (fresh_back x1 hp2) (fun e => by rw [e, hp2] at hx1; cases hx1) ((x1.trans x2).trans (Ex.new hq)) (Ex.new hq _ _ (x2 _ _ hx1)) (Ex.new hq _ _ hx2) (AllR.up (x2.trans (Ex.new hq)) r1) (AllR.up (Ex.new hq) r2) l1 l2 py pz⟩⟩
theorem rgV0 (n : Int) : rgV 0 n = (upto n.toNat).map V.int := by
  unfold rgV upto
  rw [List.map_map]
  have e : (n - 0).toNat = n.toNat := by omega
  rw [e]
  refine List.map_congr_left fun i _ => ?_
  show V.int (0 + (i : Int)) = V.int (Int.ofNat i)
  rw [Int.zero_add]
  rfl
theorem n_listRg {n : Int} (ha : EvV dI ta σ H n) (h0 : 0 ≤ n) (h1 : n ≤ 4000) : EvN dI (tLstRg (tRg1 ta)) σ H (fun y => y = upto n.toNat) := fun H1 x Q q => ha H1 x _ fun v H2 x2 r => ⟨n, r, RgOk.of_le (by omega) (by omega) (by omega) h0, fun pl hpl => q pl _ _ (upto n.toNat) (fresh_back x2 hpl) (x2.trans (Ex.new hpl)) upd_same (by rw [rgV0]; exact allI' _ _) (by unfold upto; rw [List.length_map, List.length_range]; show _ ≤ 4000; omega) rfl⟩
theorem rEqI : ∀ (i j : Int) H (Q : VK), Q (.bl (decide (i = j))) H → (rEqD K) (.int i) (.int j) H Q := fun i j H Q q =>
  ⟨(encI (K := K)).enc i, (encI (K := K)).enc j, (encI (K := K)).dp (H := H) rfl, (encI (K := K)).dp (H := H) rfl, enc_sh (encI (K := K)) (by decide) i, enc_sh (encI (K := K)) (by decide) j, by rw [enc_eqv]; exact q⟩
end

/-- behind a turn of the second loop -/
def NetP2 (p pf : Addr) (many kind : Int) (m k0 : Nat) (H : Hp) (i : Nat) (σ' : L2.St) (H' : Hp) : Prop := ∃ (xs : List V) (l' : List Road) (o5 o6 o7 o8 : Option V), σ' = [some (.ref p), some (.int 7), some (.int many), some (.int kind), some (.ref pf), o5, o6, o7, o8, none, none, none, none, none, none] ∧ ExB p H H' ∧ PenAt p (m + 13 + 3 * i) H' ∧ H' pf = some (.lst xs) ∧ AllR (dP dI dI) H' xs l' ∧ l'.length = k0 + i ∧ RdsOk many.toNat l' ∧ Span many.toNat l'
abbrev sp_law_net  : Sp := fun vs H Q _ => ∃ (p : Addr) (m : Nat), vs = [.ref p, .int 7] ∧ PenAt p m H ∧ m < 10000000 ∧ ∀ w N H', ExB p H H' → PenAt p (m + 100) H' → (dP dI (dL (dP dI dI))).r H' w N → NetOk N → DifR N.2 → Q w H'
abbrev H_law_net (P : Program) (w : World) (K : PySem.W.Frag) (mg : Str → Option Value) (base : Heap)  : Prop := FnAt P w K mg base "_law_net" 3 ["_law_pen_here", "_law_most"] sp_law_net
theorem net_len : ∀ vs H Q E, sp_law_net vs H Q E → vs.length = (["_law_pen_here", "_law_most"] : List Str).length := fun vs H Q E ⟨p, m, e, _⟩ => by rw [e]; rfl
theorem ok_law_net {P : Program} {w : World} {K : PySem.W.Frag} {mg : Str → Option Value} {base : Heap}  (D : DefAt K mg "_law_net" s_law_net) (B : Bts mg) (h_law_draw : H_law_draw P w K mg base) (h_law_road : H_law_road P w K mg base)  : H_law_net P w K mg base := by
  refine fnAt D sc_law_net (fun _ _ _ _ _ _ us hl => match us, hl with | [_, _], _ => rfl) net_len fun fad cdv A outer s H vs Q E hr h => ⟨_, PSs.nox (pss_cons (ps_par (i := 2) (j := 3) (by rfl) sc_law_net.nd rfl rfl (by decide) rfl rfl (pa_cons (pe_op (kPlus K) pe_int (pcall h_law_draw hr (by decide) rfl (pa_cons (pv 0) (pa_cons pe_int pa_nil)))) (pa_cons (pcall h_law_draw hr (by decide) rfl (pa_cons (pv 0) (pa_cons pe_int pa_nil))) pa_nil)) (by rfl))
    (pss_cons (ps_set (i := 4) sc_law_net.nd rfl (by first | exact Or.inl rfl | exact Or.inr rfl) (pe_lst pa_nil))
    (pss_cons (ps_for PassesOwn.never rfl (pi_range2 (by rfl) B.range (pa_cons pe_int (pa_cons (pv 2) pa_nil))) (pg_name (i := 5) sc_law_net.nd rfl (by first | exact Or.inl rfl | exact Or.inr rfl))
    (pss_cons (ps_set (i := 6) sc_law_net.nd rfl (by first | exact Or.inl rfl | exact Or.inr rfl) (pcall h_law_draw hr (by decide) rfl (pa_cons (pv 0) (pa_cons (pv 5) pa_nil))))
    (pss_one (ps_expr (pe_bm PySem.F.plainAttrs_list PySem.F.slot_list_append PySem.F.type_list_append mt_append (pv 4) (pa_cons (pe_ifExp (PW.pt (pw_or (pt_cmpR op_lt (pv 3) pe_int (nomark _)) (pw_or1 (pt_cmpR (kEq K hr.units) (pcall h_law_draw hr (by decide) rfl (pa_cons (pv 0) (pa_cons pe_int pa_nil))) pe_int (nomark _))))) (pe_tup (pa_cons (pv 6) (pa_cons (pv 5) pa_nil))) (pe_tup (pa_cons (pv 5) (pa_cons (pv 6) pa_nil)))) pa_nil))))))
    (pss_cons (ps_for PassesOwn.never rfl (pi_range1 (by rfl) B.range (pa_cons (pcall h_law_draw hr (by decide) rfl (pa_cons (pv 0) (pa_cons (pe_op (kPlus K) (pe_op op_sub (pv 1) (pe_callB (kLen K) (by rfl) B.len PySem.boot_len (pa_cons (pv 4) pa_nil))) pe_int) pa_nil))) pa_nil)) (pg_name (i := 7) sc_law_net.nd rfl (by first | exact Or.inl rfl | exact Or.inr rfl))
    (pss_cons (ps_set (i := 8) sc_law_net.nd rfl (by first | exact Or.inl rfl | exact Or.inr rfl) (pcall h_law_road hr (by decide) rfl (pa_cons (pv 0) (pa_cons (pv 2) pa_nil))))
    (pss_cons (ps_if (PW.pt (pw_or (pt_cmpR op_lt (pv 3) pe_int (nomark _)) (pw_or1 (PW.pt (pw_and (pt_cmpR (kEq K hr.units) (pv 3) pe_int (nomark _)) (pw_and1 (pt_cmpR op_gt (pcall h_law_draw hr (by decide) rfl (pa_cons (pv 0) (pa_cons pe_int pa_nil))) pe_int (nomark _)))))))) (pss_one (ps_set (i := 8) sc_law_net.nd rfl (by first | exact Or.inl rfl | exact Or.inr rfl) (pe_tup (pa_cons (pe_callB (kMin K hr.units) (by rfl) B.min (by decide +kernel) (pa_cons (pv 8) pa_nil)) (pa_cons (pe_callB (kMax K hr.units) (by rfl) B.max (by decide +kernel) (pa_cons (pv 8) pa_nil)) pa_nil))))) pss_nil)
    (pss_one (ps_expr (pe_bm PySem.F.plainAttrs_list PySem.F.slot_list_append PySem.F.type_list_append mt_append (pv 4) (pa_cons (pv 8) pa_nil)))))))
    (pss_cons (ps_par (i := 9) (j := 10) (by rfl) sc_law_net.nd rfl rfl (by decide) rfl rfl (pa_cons (pe_callTy (kList K) (by rfl) B.list (by decide +kernel) (pa_cons (pv 4) pa_nil)) (pa_cons (pe_lst pa_nil) pa_nil)) (by rfl))
    (pss_cons (ps_while PassesOwn.never (pt_cmpR (kNe K hr.units) (pv 9) (pe_lst pa_nil) (nomark _)) (pss_one (ps_expr (pe_bm PySem.F.plainAttrs_list PySem.F.slot_list_append PySem.F.type_list_append mt_append (pv 10) (pa_cons (pe_bm PySem.F.plainAttrs_list PySem.F.slot_list_pop PySem.F.type_list_pop mt_popAt (pv 9) (pa_cons (pcall h_law_draw hr (by decide) rfl (pa_cons (pv 0) (pa_cons (pe_callB (kLen K) (by rfl) B.len PySem.boot_len (pa_cons (pv 9) pa_nil)) pa_nil))) pa_nil)) pa_nil)))))
    (pss_cons (ps_asg (pe_tup (pa_cons (pe_lst pa_nil) (pa_cons (pe_listRg rfl (by rfl) B.list (prg_1 (by rfl) B.range (pv 2))) pa_nil))) (kTup K (n := 2) (pgs_cons (pg_name (i := 11) sc_law_net.nd rfl (by first | exact Or.inl rfl | exact Or.inr rfl)) (pgs_cons (pg_name (i := 12) sc_law_net.nd rfl (by first | exact Or.inl rfl | exact Or.inr rfl)) pgs_nil))))
    (pss_cons (ps_for PassesOwn.never rfl (pi_range1 (by rfl) B.range (pa_cons (pv 2) pa_nil)) (pg_name (i := 7) sc_law_net.nd rfl (by first | exact Or.inl rfl | exact Or.inr rfl))
    (pss_one (ps_expr (pe_bm PySem.F.plainAttrs_list PySem.F.slot_list_append PySem.F.type_list_append mt_append (pv 11) (pa_cons (pe_bm PySem.F.plainAttrs_list PySem.F.slot_list_pop PySem.F.type_list_pop mt_popAt (pv 12) (pa_cons (pcall h_law_draw hr (by decide) rfl (pa_cons (pv 0) (pa_cons (pe_callB (kLen K) (by rfl) B.len PySem.boot_len (pa_cons (pv 12) pa_nil)) pa_nil))) pa_nil)) pa_nil)))))
    (pss_one (ps_ret (pe_tup (pa_cons (pv 2) (pa_cons (pe_lc (own := [("_law_first", 13), ("_law_last", 14)]) rfl sc_law_net.nd (kWalk K (pv 10))
      (blkOk_by (own := [("_law_first", 13), ("_law_last", 14)]) (N := N_law_net) (sc := defScope s_law_net) (by decide +kernel))
      (fun _ _ _ _ _ => (kTup K (n := 2) (pgs_cons (pg_name (i := 13) sc_law_net.nd rfl (by first | exact Or.inl rfl | exact Or.inr rfl)) (pgs_cons (pg_name (i := 14) sc_law_net.nd rfl (by first | exact Or.inl rfl | exact Or.inr rfl)) pgs_nil)))) (fun _ _ _ _ _ => pts_nil) (fun _ _ _ _ _ => (pe_tup (pa_cons (pe_ix (kIx K) (pv 11) (pv 13) (fun _ _ => rfl)) (pa_cons (pe_ix (kIx K) (pv 11) (pv 14) (fun _ _ => rfl)) pa_nil))))) pa_nil))))))))))))), ?_⟩
  obtain ⟨p, m, rfl, hp, hm, q⟩ := h
  refine kd_par (d_op oAdd ((v_int (i := 2)).d hp) (fun H1 a x1 hp1 _ => d_draw (n := 5) rfl v_int hp1 (by omega) (by omega) (by omega)) fun _ _ _ _ => trivial) (fun H1 a x1 hp1 _ => d_draw (n := 4) rfl v_int hp1 (by omega) (by omega) (by omega)) fun H1 many kind x1 hp1 hmany hkind => ?_
  obtain ⟨a2, b2, ha2, ⟨hb0, hb1⟩, rfl⟩ := hmany
  have ha2 : a2 = 2 := ha2
  subst ha2
  generalize hmy : 2 + b2 = many
  have hm2 : 2 ≤ many := by omega
  have hm6 : many ≤ 6 := by omega
  refine k_setN (n_lst0 (e := dP dI dI)) fun pf H2 xs0 y0 hpf x2 hxs0 hr0 _ hy0 => ?_
  subst hy0
  cases hr0
  have hnef : pf ≠ p := hp1.ne hpf
  have hpfH : H pf = none := by
    cases h : H pf with
    | none => rfl
    | some o => rw [x1 pf o hnef h] at hpf; cases hpf
  have hp2 := hp1.up x2
  have y2 : ExB p H H2 := x1.trans (ExB.of x2)
  refine kq_forR2 (a := 1) (b := many) v_int (v_var (e := dI) rfl rfl) (by omega) (by omega) (by omega) (by omega) (fun i σ' H' => ∃ xs l o5 o6, σ' = [some (.ref p), some (.int 7), some (.int many), some (.int kind), some (.ref pf), o5, o6, none, none, none, none, none, none, none, none] ∧ ExB p H H' ∧ PenAt p (m + 2 + 2 * i) H' ∧ H' pf = some (.lst xs) ∧ AllR (dP dI dI) H' xs l ∧ l.length = i ∧ RdsOk many.toNat l ∧ Span (i + 1) l)
    (fun H3 x3 => ⟨[], [], _, _, rfl, y2.trans (ExB.of x3), hp2.up x3, x3 _ _ hxs0, .nil, rfl, (show RdsOk _ [] from fun r h => by cases h), fun t h0 h1 => by omega⟩) ?_ ?_
  · rintro i σ' H3 hi ⟨xs, l, o5, o6, rfl, y3, hp3, hxs, hr3, hl, ro, spn⟩
    have li : i < 5 := by omega
    have hlx : xs.length = l.length := Paired.length hr3
    refine kd_set (d_draw rfl (v_var (e := dI) (a := 1 + (i : Int)) rfl rfl) hp3 (by omega) (by omega) (by omega)) fun w H4 b x4 hp4 r4 ⟨b0, b1⟩ => ?_
    obtain rfl : w = V.int b := r4
    refine kd_app (f := dP dI dI) (P := fun y => y = (b, 1 + (i : Int)) ∨ y = (1 + (i : Int), b)) (k := m + 2 + 2 * i + 1 + 1) rfl (x4 pf _ hnef hxs) hnef (by omega) (d_if (dt_or (EvT.d (t_test (v_IB (v_var (e := dI) rfl rfl) v_int)) hp4) (fun H5 x5 hp5 => dt_any rEqI (d_draw (n := 2) rfl v_int hp5 (by omega) (by omega) (by omega)) fun H6 x6 hp6 => EvV.d (v_int (i := 0)) hp6) (Nat.le_succ _)) (fun H5 x5 hp5 => EvV.p (v_pair (v_var (e := dI) rfl rfl) (v_var (e := dI) rfl rfl)) (Or.inl rfl)) fun H5 x5 hp5 => EvV.p (v_pair (v_var (e := dI) rfl rfl) (v_var (e := dI) rfl rfl)) (Or.inr rfl)) fun w H5 y x5 hp5 r5 py => ?_
    have hxs5 : H5 pf = some (.lst xs) := x5 pf _ hnef (x4 pf _ hnef hxs)
    have tx : Tx H3 (upd H5 pf (.lst (xs ++ [w]))) := ((hp3.tx x4).trans (hp4.tx x5)).trans (Tx.upd hxs5)
    refine ⟨xs ++ [w], l ++ [y], _, _, rfl, exb_mut ((y3.trans x4).trans x5) hpfH, (hp5.other hnef).le (by omega), upd_same, pd_app (AllR.im (im_P im_I im_I) tx hr3) (.cons (im_P im_I im_I (Tx.upd hxs5) r5) .nil), by rw [List.length_append, hl]; rfl, fun r hr => ?_, fun t h0 h1 => ?_⟩
    · rcases List.mem_append.mp hr with hr | hr
      · exact ro r hr
      · obtain rfl := List.mem_singleton.mp hr
        rcases py with rfl | rfl
        · exact ⟨⟨b0, by show b < (many.toNat : Int); omega⟩, ⟨by show (0 : Int) ≤ 1 + (i : Int); omega, by show 1 + (i : Int) < (many.toNat : Int); omega⟩, by show b ≠ 1 + (i : Int); omega⟩
        · exact ⟨⟨by show (0 : Int) ≤ 1 + (i : Int); omega, by show 1 + (i : Int) < (many.toNat : Int); omega⟩, ⟨b0, by show b < (many.toNat : Int); omega⟩, by show 1 + (i : Int) ≠ b; omega⟩
    · by_cases ht : t < ((i + 1 : Nat) : Int)
      · obtain ⟨b', h2, h3, h4⟩ := spn t h0 ht
        exact ⟨b', h2, h3, h4.imp (List.mem_append_left _) (List.mem_append_left _)⟩
      · have et : t = 1 + (i : Int) := by omega
        subst et
        exact ⟨b, b0, b1, py.imp (fun e => List.mem_append_right _ (List.mem_singleton.mpr e.symm)) fun e => List.mem_append_right _ (List.mem_singleton.mpr e.symm)⟩
  · rintro σ' H3 ⟨xs, l, o5, o6, rfl, y3, hp3, hxs, hr3, hl, ro, spn⟩
    have spn : Span many.toNat l := by
      have e : (many - 1).toNat + 1 = many.toNat := by omega
      rw [e] at spn
      exact spn
    have hp3 := hp3.le (k := m + 12) (by omega)
    have rL : (dL (dP dI dI)).r H3 (.ref pf) l := ⟨pf, xs, rfl, hxs, hr3, by show _ ≤ 4000; omega⟩
    refine kd_forR1 (P := fun n => 0 ≤ n ∧ n < 7 - (l.length : Int) + 1) (d_draw rfl (v_addI (v_I0 (v_var (e := dI) rfl rfl) (v_lenL (v_var rfl rL))) v_int) hp3 (by omega) (by omega) (by omega)) (fun n hn => by omega)
      (fun n i σ' H' => NetP2 p pf many kind m l.length H i σ' H')
      (fun H4 n x4 hp4 _ => ⟨xs, l, _, _, _, _, rfl, y3.trans x4, hp4, x4 pf _ hnef hxs, AllR.im (im_P im_I im_I) (hp3.tx x4) hr3, rfl, ro, spn⟩) ?_ ?_
    · rintro n i σ' H4 ⟨n0, n1⟩ hi ⟨xs, l', o5, o6, o7, o8, rfl, y4, hp4, hxs, hr4, hl', ro', spn'⟩
      have hlx : xs.length = l'.length := Paired.length hr4
      refine kd_set (d_road (n := many) rfl (v_var (e := dI) rfl rfl) hp4 (by omega) (by omega) (by omega)) fun w H5 y x5 hp5 r5 ⟨h1, h2, h3, h4, h5⟩ => ?_
      have fin : ∀ (D' : Ends) (w : V) (H6 : Hp) (y : Road), (∀ σ H', NetP2 p pf many kind m l.length H (i + 1) σ H' → D'.nx σ H') → ExB p H5 H6 → PenAt p (m + 13 + 3 * i + 3) H6 → (dP dI dI).r H6 w y → inR many.toNat y.1 ∧ inR many.toNat y.2 ∧ y.1 ≠ y.2 →
          (tDrop (tBM K "list" rAppend (tVar 4) (tCons (tVar 8) tNil))) D' [some (.ref p), some (.int 7), some (.int many), some (.int kind), some (.ref pf), o5, o6, some (.int (i : Int)), some w, none, none, none, none, none, none] H6 := fun D' w H6 y nx x6 hp6 r6 hy => by
        have hxs6 : H6 pf = some (.lst xs) := x6 pf _ hnef (x5 pf _ hnef hxs)
        refine k_app rfl hxs6 (by omega) (v_var rfl r6) fun w' H7 x7 r7 => nx _ _ ?_
        have hxs7 := x7 _ _ hxs6
        have tx : Tx H4 (L2.upd H7 pf (.lst (xs ++ [w']))) := (((hp4.tx x5).trans (hp5.tx x6)).trans (Tx.of x7)).trans (Tx.upd hxs7)
        refine ⟨xs ++ [w'], l' ++ [y], _, _, _, _, rfl, exb_mut (((y4.trans x5).trans x6).trans (ExB.of x7)) hpfH, ((hp6.up x7).other hnef).le (by omega), upd_same, pd_app (AllR.im (im_P im_I im_I) tx hr4) (.cons (im_P im_I im_I (Tx.upd hxs7) r7) .nil), by rw [List.length_append, hl']; rfl, fun r hr => ?_, fun t h0 h1 => ?_⟩
        · rcases List.mem_append.mp hr with hr | hr
          · exact ro' r hr
          · obtain rfl := List.mem_singleton.mp hr
            exact hy
        · obtain ⟨b', h2, h3, h4⟩ := spn' t h0 h1
          exact ⟨b', h2, h3, h4.imp (List.mem_append_left _) (List.mem_append_left _)⟩
      have hy : inR many.toNat y.1 ∧ inR many.toNat y.2 ∧ y.1 ≠ y.2 := ⟨⟨h1, by show y.1 < (many.toNat : Int); omega⟩, ⟨h3, by show y.2 < (many.toNat : Int); omega⟩, h5⟩
      refine kd_if (k := m + 13 + 3 * i + 2 + 1) (dt_or (EvT.d (t_test (v_IB (v_var (e := dI) rfl rfl) v_int)) hp5) (fun H6 x6 hp6 => dt_and (EvT.d (t_test (v_eq encI (v_var (e := dI) rfl rfl) v_int)) hp6) (fun H7 x7 hp7 => dt_any rIB (d_draw (n := 4) rfl v_int hp7 (by omega) (by omega) (by omega)) fun H8 x8 hp8 => EvV.d (v_int (i := 0)) hp8) (Nat.le_succ _)) (Nat.le_succ _)) (fun H6 x6 hp6 => ?_) fun H6 x6 hp6 => ?_
      · have r6 : (dP dI dI).r H6 w y := im_P im_I im_I (hp5.tx x6) r5
        refine k_setV1 (v_pair (v_minP (v_var rfl r6)) (v_maxP (v_var rfl r6))) fun w' H7 x7 r7 => fin _ w' H7 _ (fun _ _ h => h) (x6.trans (ExB.of x7)) (hp6.up x7) r7 ?_
        obtain ⟨⟨i1, i2⟩, ⟨i3, i4⟩, i5⟩ := hy
        exact ⟨⟨by show (0 : Int) ≤ min y.1 y.2; omega, by show min y.1 y.2 < (many.toNat : Int); omega⟩, ⟨by show (0 : Int) ≤ max y.1 y.2; omega, by show max y.1 y.2 < (many.toNat : Int); omega⟩, by show min y.1 y.2 ≠ max y.1 y.2; omega⟩
      · exact fin _ w H6 y (fun _ _ h => h) x6 hp6 (im_P im_I im_I (hp5.tx x6) r5) hy
    · rintro n σ' H4 ⟨n0, n1⟩ ⟨xs, l', o5, o6, o7, o8, rfl, y4, hp4, hxs, hr4, hl', ro', spn'⟩
      have hL7 : l'.length ≤ 7 := by omega
      have hL1 : 1 ≤ l'.length := by omega
      have hp4 := hp4.le (k := m + 33) (by omega)
      have rL4 : (dL (dP dI dI)).r H4 (.ref pf) l' := ⟨pf, xs, rfl, hxs, hr4, by show _ ≤ 4000; omega⟩
      refine kn_par (n_listL (v_var rfl rL4)) (fun H5 x5 => n_lst0 (e := dP dI dI)) fun pr pm H5 xr xm lr lm hpr hpm hne x5 hxr hxm hrr hrm _ _ e1 e2 => ?_
      subst e1
      subst e2
      cases hrm
      have nepr : pr ≠ p := hp4.ne hpr
      have nepm : pm ≠ p := hp4.ne hpm
      have back : ∀ {q : Addr} {Ha : Hp}, q ≠ p → ExB p H Ha → Ha q = none → H q = none := fun {q Ha} hq hx hn => by
        cases h : H q with
        | none => rfl
        | some o => rw [hx q o hq h] at hn; cases hn
      have hprH := back nepr y4 hpr
      have hpmH := back nepm y4 hpm
      refine ⟨fun mm σ' H' => ∃ (xr xm : List V) (lr' lm : List Road), σ' = [some (.ref p), some (.int 7), some (.int many), some (.int kind), some (.ref pf), o5, o6, o7, o8, some (.ref pr), some (.ref pm), none, none, none, none] ∧ ExB p H H' ∧ PenAt p (m + 40 - lr'.length) H' ∧ H' pr = some (.lst xr) ∧ H' pm = some (.lst xm) ∧ AllR (dP dI dI) H' xr lr' ∧ AllR (dP dI dI) H' xm lm ∧ lr'.length ≤ 7 ∧ (lm ++ lr').Perm lr ∧ mm = lr'.length,
        ⟨_, xr, [], lr, [], rfl, y4.trans (ExB.of x5), (hp4.up x5).le (by omega), hxr, hxm, hrr, .nil, hL7, List.Perm.refl _, rfl⟩, ?_⟩
      rintro mm σ' H6 ⟨xr, xm, lr', lm, rfl, y6, hp6, hxr, hxm, hrr, hrm, h7, hperm, rfl⟩
      have lxr : xr.length = lr'.length := Paired.length hrr
      have lxm : xm.length = lm.length := Paired.length hrm
      have llm := hperm.length_eq
      rw [List.length_append] at llm
      have rR6 : (dL (dP dI dI)).r H6 (.ref pr) lr' := ⟨pr, xr, rfl, hxr, hrr, by show _ ≤ 4000; omega⟩
      refine (t_test (v_ne (encL (encP encI encI)) (v_var rfl rR6) v_lst0)) H6 (Ex.refl H6) _ fun H7 x7 => ?_
      by_cases hne0 : lr' = []
      · subst hne0
        rw [if_neg (by rw [decide_eq_true_eq]; exact fun h => h rfl)]
        rw [List.append_nil] at hperm
        have hp7 := (hp6.up x7).le (k := m + 40) (by omega)
        have y7 := y6.trans (ExB.of x7)
        have hxm7 := x7 _ _ hxm
        refine kn_tup (n_lst0 (e := dI)) (fun H8 x8 => n_listRg (v_var (e := dI) rfl rfl) (by omega) (by omega)) fun pn pl H8 xn xl ln ll hpn hpl hnl x8 hxn hxl hrn hrl _ _ e1 e2 => ?_
        subst e1
        subst e2
        cases hrn
        have nepn : pn ≠ p := hp7.ne hpn
        have nepl : pl ≠ p := hp7.ne hpl
        have hpnH := back nepn y7 hpn
        have hplH := back nepl y7 hpl
        have nm1 : pm ≠ pn := fun e => by rw [e, hpn] at hxm7; cases hxm7
        have nm2 : pm ≠ pl := fun e => by rw [e, hpl] at hxm7; cases hxm7
        have lup : (upto many.toNat).length = many.toNat := by unfold upto; rw [List.length_map, List.length_range]
        refine kq_forR1 (n := many) (v_var (e := dI) rfl rfl) (by omega) (by omega) (fun i σ' H' => ∃ (xn xl : List V) (ln ll : List Int) (o7 : Option V), σ' = [some (.ref p), some (.int 7), some (.int many), some (.int kind), some (.ref pf), o5, o6, o7, o8, some (.ref pr), some (.ref pm), some (.ref pn), some (.ref pl), none, none] ∧ ExB p H H' ∧ PenAt p (m + 40 + i) H' ∧ H' pn = some (.lst xn) ∧ H' pl = some (.lst xl) ∧ AllR dI H' xn ln ∧ AllR dI H' xl ll ∧ ll.length = many.toNat - i ∧ (ln ++ ll).Perm (upto many.toNat) ∧ H' pm = some (.lst xm) ∧ AllR (dP dI dI) H' xm lm)
          (fun H9 x9 => ⟨[], xl, [], _, _, rfl, y7.trans (ExB.of (x8.trans x9)), hp7.up (x8.trans x9), x9 _ _ hxn, x9 _ _ hxl, .nil, AllR.up x9 hrl, lup, List.Perm.refl _, x9 _ _ (x8 _ _ hxm7), AllR.up (x7.trans (x8.trans x9)) hrm⟩) ?_ ?_
        · rintro i σ' H9 hi ⟨xn, xl, ln, ll, o7', rfl, y9, hp9, hxn, hxl, hrn, hrl, hll, hpn2, hxm9, hrm9⟩
          have lxn : xn.length = ln.length := Paired.length hrn
          have lxl : xl.length = ll.length := Paired.length hrl
          have lln := hpn2.length_eq
          rw [List.length_append, lup] at lln
          have rl9 : (dL dI).r H9 (.ref pl) ll := ⟨pl, xl, rfl, hxl, hrl, by show _ ≤ 4000; omega⟩
          refine kd_appPop (P := fun _ => True) rfl hxn nepn (by omega) rfl hxl nepl hnl (by omega) ((d_draw rfl (v_lenL (v_var rfl rl9)) hp9 (by omega) (by omega) (by omega)).imp fun y hy => by rw [lxl]; exact hy) fun H10 k w x10 hp10 hw => ?_
          obtain ⟨z, hz, rz⟩ := pd_get hrl hw
          obtain rfl : w = V.int z := rz
          have e1 := allI hrn
          have e2 := allI hrl
          subst e1
          subst e2
          have hkl := (List.getElem?_eq_some_iff.mp hz).1
          have txm : Tx H9 (L2.upd (L2.upd H10 pl (.lst ((ll.map V.int).eraseIdx k))) pn (.lst (ln.map V.int ++ [.int z]))) := ((hp9.tx x10).trans (Tx.upd (x10 pl _ nepl hxl))).trans (Tx.upd (by rw [upd_ne hnl]; exact x10 pn _ nepn hxn))
          refine ⟨ln.map V.int ++ [.int z], (ll.map V.int).eraseIdx k, ln ++ [z], ll.eraseIdx k, _, rfl, exb_mut (exb_mut (y9.trans x10) hplH) hpnH, ((hp10.other nepl).other nepn).le (by omega), upd_same, by rw [upd_ne (Ne.symm hnl)]; exact upd_same, pd_app (allI' _ _) (.cons (show dI.r _ (.int z) z from rfl) .nil), pd_erase (allI' _ _) k, by rw [List.length_eraseIdx_of_lt hkl, hll]; omega, (pop_perm2 hz).trans hpn2, by rw [upd_ne nm1, upd_ne nm2]; exact x10 pm _ nepm hxm9, AllR.im (im_P im_I im_I) txm hrm9⟩
        · rintro σ' H9 ⟨xn, xl, ln, ll, o7', rfl, y9, hp9, hxn, hxl, hrn, hrl, hll, hpn2, hxm9, hrm9⟩
          have ell : ll = [] := List.eq_nil_of_length_eq_zero (by omega)
          subst ell
          rw [List.append_nil] at hpn2
          have lln := hpn2.length_eq
          rw [lup] at lln
          have rn : (dL dI).r H9 (.ref pn) ln := ⟨pn, xn, rfl, hxn, hrn, by show _ ≤ 4000; omega⟩
          have rm : (dL (dP dI dI)).r H9 (.ref pm) lm := ⟨pm, xm, rfl, hxm9, hrm9, by show _ ≤ 4000; simp at llm; omega⟩
          obtain ⟨ro2, cn2, df2⟩ := renamed ro' spn' hperm hpn2
          refine k_retV (y := (many, lm.map fun r => (ln.getD r.1.toNat 0, ln.getD r.2.toNat 0))) (v_pair (v_var (e := dI) rfl rfl) (v_lcN (fun r : Road => (ln.getD r.1.toNat 0, ln.getD r.2.toNat 0)) (im_P im_I im_I) (s_anyL (v_var rfl rm)) (dL_len rm) b_pair (fun _ _ _ ⟨_, _, e, _⟩ => by subst e; rfl) ?_)) fun w H10 x10 r10 => ?_
          · rintro r hr H10 H11 σ' x10 ⟨y, z, rfl, ry, rz⟩ x11
            have hir := ro' r (hperm.mem_iff.mp hr)
            have hi1 : r.1.toNat < ln.length := by have := hir.1.1; have := hir.1.2; omega
            have hi2 : r.2.toNat < ln.length := by have := hir.2.1.1; have := hir.2.1.2; omega
            have gg : ∀ k : Nat, k < ln.length → ln[k]? = some (ln.getD k 0) := fun k hk => by rw [List.getD_eq_getElem?_getD, List.getElem?_eq_getElem hk]; rfl
            exact v_pair (v_ixL (v_var rfl ((dL dI).up (x10.trans x11) rn)) (v_var rfl (dI.up x11 ry)) hir.1.1 (gg _ hi1)) (v_ixL (v_var rfl ((dL dI).up (x10.trans x11) rn)) (v_var rfl (dI.up x11 rz)) hir.2.1.1 (gg _ hi2))
          · refine q w _ H10 (y9.trans (ExB.of x10)) ((hp9.up x10).le (by omega)) r10 ⟨hm2, hm6, ?_, ?_, ro2, cn2⟩ df2
            · show 1 ≤ (lm.map _).length
              rw [List.length_map]
              simp at llm
              omega
            · show (lm.map _).length ≤ 7
              rw [List.length_map]
              simp at llm
              omega
      · rw [if_pos (by rw [decide_eq_true_eq]; exact hne0)]
        have hl0 : 0 < lr'.length := List.length_pos_iff.mpr hne0
        have hxr7 := x7 _ _ hxr
        have hxm7 := x7 _ _ hxm
        have hp7 := hp6.up x7
        refine ⟨_, fun σ'' H'' h => h, ?_⟩
        refine kd_appPop (P := fun _ => True) (ys := xr) rfl hxm7 nepm (by omega) rfl hxr7 nepr (Ne.symm hne) (by omega) ((d_draw rfl (v_lenL (v_var rfl ((dL (dP dI dI)).up x7 rR6))) hp7 (by omega) (by omega) (by omega)).imp fun y hy => by rw [lxr]; exact hy) fun H8 k w x8 hp8 hw => ?_
        obtain ⟨z, hz, rz⟩ := pd_get hrr hw
        have hkl := (List.getElem?_eq_some_iff.mp hz).1
        have hxr8 := x8 pr _ nepr hxr7
        have hxm8 := x8 pm _ nepm hxm7
        have t1 : Tx H8 (L2.upd (L2.upd H8 pr (.lst (xr.eraseIdx k))) pm (.lst (xm ++ [w]))) := (Tx.upd hxr8).trans (Tx.upd (by rw [upd_ne (Ne.symm hne)]; exact hxm8))
        have t0 : Tx H6 (L2.upd (L2.upd H8 pr (.lst (xr.eraseIdx k))) pm (.lst (xm ++ [w]))) := ((Tx.of x7).trans (hp7.tx x8)).trans t1
        have hle : (lr'.eraseIdx k).length = lr'.length - 1 := List.length_eraseIdx_of_lt hkl
        refine ⟨(lr'.eraseIdx k).length, by omega, xr.eraseIdx k, xm ++ [w], lr'.eraseIdx k, lm ++ [z], rfl, exb_mut (exb_mut ((y6.trans (ExB.of x7)).trans x8) hprH) hpmH, ((hp8.other nepr).other nepm).le (by omega), by rw [upd_ne hne]; exact upd_same, upd_same, pd_erase (AllR.im (im_P im_I im_I) t0 hrr) k, pd_app (AllR.im (im_P im_I im_I) t0 hrm) (.cons (im_P im_I im_I t0 rz) .nil), by omega, (pop_perm2 hz).trans hperm, rfl⟩
end Ow
-- OwF16
/-! A calm family drawn. -/
namespace Ow
open PySem PySem.Spec PyProof.Rows L2 Evl

section
variable {α β γ : Type} {K : PySem.W.Frag} {σ : L2.St} {H H' : Hp} {te ta tb tc : TE} {t u : TT} {e : Rl α} {f : Rl β} {g : Rl γ} {D : Ends} {tu tw tz : TS} {p : Addr} {k k' : Nat}
theorem plusT {v w : V} {a b : List α} (r1 : (dT e).r H v a) (r2 : (dT e).r H w b) (hz : a.length + b.length ≤ lim) (Q : VK) (q : ∀ z H2, Ex H H2 → (dT e).r H2 z (a ++ b) → Q z H2) : rPlus K v w H Q :=
  (v_addT (K := K) (σ := []) (ta := fun _ H Q => Q v H) (tb := fun _ H Q => Q w H) (fun H1 x Q q => q v H1 (Ex.refl H1) ((dT e).up x r1)) (fun H1 x Q q => q w H1 (Ex.refl H1) ((dT e).up x r2)) hz) H (Ex.refl H) Q q
theorem d_pick {E : XK} {i j : Nat} {v : V} {l : List Pl} (hv : σ[i]? = some (some (.ref p))) (hv' : σ[j]? = some (some v)) (r : (dL (dT dI)).r H v l) (hp : PenAt p k H) (hk : k < 100000000) (h0 : 0 < l.length) : EvD p (dT dI) (tCall sp_law_pick [] E (tCons (tVar i) (tCons (tVar j) tNil))) σ H (k + 1) (fun y => y ∈ l) := fun Q q =>
  ⟨.ref p, hv, v, hv', p, k, v, l, rfl, hp, hk, r, h0, fun w y H2 x2 hp2 r2 hy => q w H2 y x2 hp2 r2 hy⟩
theorem d_tup1 {A : α → Prop} (ha : EvD p e te σ H k A) : EvD p (dT e) (tTup (tCons te tNil)) σ H k (fun y => ∃ a, A a ∧ y = [a]) := fun Q q =>
  ha _ fun v H1 a x hp r pa => ⟨by show 1 ≤ sizeLine; decide, fun pt hpt => q _ _ [a] (x.trans (ExB.of (Ex.new hpt))) (hp.up (Ex.new hpt)) ⟨pt, [v], rfl, upd_same, .cons (e.up (Ex.new hpt) r) .nil, by show 1 ≤ 4000; omega⟩ ⟨a, pa, rfl⟩⟩
/-- t + what is drawn -/
theorem d_addT {i : Nat} {v : V} {a : List α} {B : List α → Prop} (im : Im e) (hv : σ[i]? = some (some v)) (hp : PenAt p k H) (r : (dT e).r H v a) (hb : EvD p (dT e) tb σ H k' B) (hz : ∀ b, B b → a.length + b.length ≤ lim) : EvD p (dT e) (tOp (rPlus K) (tVar i) tb) σ H k' (fun y => ∃ b, B b ∧ y = a ++ b) := fun Q q =>
  ⟨v, hv, hb _ fun w H1 b x hp1 r1 pb => plusT (im_T im (hp.tx x) r) r1 (hz b pb) Q fun z H2 x2 r2 => q z H2 _ (x.trans (ExB.of x2)) (hp1.up x2) r2 ⟨b, pb, rfl⟩⟩
theorem kP_par {i j : Nat} {A : α → Prop} {b : β} (h1 : EvP e ta σ H A) (h2 : EvV f tb σ H b) (kk : ∀ v w H1 a, Ex H H1 → e.r H1 v a → f.r H1 w b → A a → tz D ((σ.set i (some v)).set j (some w)) H1) : tSeq (tPar i j (tCons ta (tCons tb tNil))) tz D σ H :=
  h1 H (Ex.refl H) _ fun v H1 a x1 r1 pa => h2 H1 x1 _ fun w H2 x2 r2 => ⟨v, w, rfl, kk v w H2 a (x1.trans x2) (e.up x2 r1) r2 pa⟩
theorem kN_par {i j : Nat} {A : List α → Prop} {b : β} (h1 : EvN e ta σ H A) (h2 : EvV f tb σ H b) (kk : ∀ q w H1 xs a, H q = none → Ex H H1 → H1 q = some (.lst xs) → AllR e H1 xs a → a.length ≤ lim → f.r H1 w b → A a → tz D ((σ.set i (some (.ref q))).set j (some w)) H1) : tSeq (tPar i j (tCons ta (tCons tb tNil))) tz D σ H :=
  h1 H (Ex.refl H) _ fun q H1 xs a hq x1 hx r1 l1 pa => h2 H1 x1 _ fun w H2 x2 r2 => ⟨_, w, rfl, kk q w H2 xs a hq (x1.trans x2) (x2 _ _ hx) (AllR.up x2 r1) l1 r2 pa⟩
theorem n_listTP {A : List α → Prop} (ha : EvP (dT e) ta σ H A) : EvN e (tCB (rListOf K) (tCons ta tNil)) σ H A := fun H1 x Q q => ha H1 x _ fun v H2 y x2 r1 py => by
  obtain ⟨p, xs, rfl, hp, hx, hl⟩ := r1
  exact ⟨p, xs, rfl, .inr (st_of hp), fun l hq => q l _ xs _ (fresh_back x2 hq) (x2.trans (Ex.new hq)) upd_same (AllR.up (Ex.new hq) hx) hl py⟩
/-- x = t + (ys.pop(draw),) -/
theorem kd_addPop {i j l0 : Nat} {q' : Addr} {v : V} {ys : List V} {a l : List α} (im : Im e) (hv : σ[i]? = some (some v)) (ra : (dT e).r H v a) (hz : a.length + 1 ≤ lim) (hv' : σ[j]? = some (some (.ref q'))) (hq' : H q' = some (.lst ys)) (hr : AllR e H ys l) (ne' : q' ≠ p) (hz' : ys.length < 100000) (hp0 : PenAt p k H)
    (h : EvD p dI te σ H k' fun y => 0 ≤ y ∧ y < (l.length : Int)) (kk : ∀ H1 (m : Nat) z w H2, ExB p H H1 → PenAt p k' H1 → l[m]? = some z → Ex (L2.upd H1 q' (.lst (ys.eraseIdx m))) H2 → (dT e).r H2 w (a ++ [z]) → D.nx (σ.set l0 (some w)) H2) :
    tAsg (tOp (rPlus K) (tVar i) (tTup (tCons (tBM K "list" rPopAt (tVar j) (tCons te tNil)) tNil))) (gName l0) D σ H :=
  ⟨v, hv, ⟨.ref q', hv', .inl ⟨rfl, ys, sq_of hq'⟩, h _ fun w H1 y x hp r ⟨y0, y1⟩ => by
    obtain rfl : w = V.int y := r
    have ll : ys.length = l.length := Paired.length hr
    obtain ⟨m, hm⟩ : ∃ m : Nat, y.toNat = m := ⟨_, rfl⟩
    have lm : m < ys.length := by omega
    have hq1 := x q' _ ne' hq'
    obtain ⟨z, hzl, rz⟩ := pd_get hr (List.getElem?_eq_getElem lm)
    refine ⟨q', ys, y, m, ys[m], rfl, rfl, hq1, by omega, by omega, by rw [PySem.seqIndex_of y0 (by omega), hm], List.getElem?_eq_getElem lm, ?_⟩
    have tx : Tx H (L2.upd H1 q' (.lst (ys.eraseIdx m))) := (hp0.tx x).trans (Tx.upd hq1)
    refine ⟨by show 1 ≤ sizeLine; decide, fun pt hpt => ?_⟩
    have xn := Ex.new (o := .tup [ys[m]]) hpt
    exact plusT (b := [z]) (im_T im (tx.trans (Tx.of xn)) ra) ⟨pt, [ys[m]], rfl, upd_same, .cons (im (tx.trans (Tx.of xn)) rz) .nil, by show 1 ≤ 4000; omega⟩ hz _ fun w3 H3 x3 r3 => kk H1 m z w3 H3 x hp hzl (xn.trans x3) r3⟩⟩
end

/-- the family that the law asks about -/
structure FamOk (N : NetD) (F : List Pl) : Prop where
  cut : ∀ q, q ∈ F → IsCut N.1.toNat N.2 q
  len : F.length ≤ 12
  two : ∀ e, e < N.2.length → useF N.2 F e ≤ 2
  calm : Calm N.1.toNat F
theorem great_ex {l : List Int} (h : 0 < l.length) : ∃ M, IsGreat l M := match l, h with
  | a :: l, _ => ⟨_, maxOf_great a l⟩
theorem great_one {l : List Int} {a b : Int} (h : IsGreat l a) (h' : IsGreat l b) : a = b := Int.le_antisymm (h'.2 a h.1) (h.2 b h'.1)
theorem usesL_len (rs : List Road) (F : List Pl) : (usesL rs F).length = rs.length := by rw [usesL_eq, List.length_map, List.length_range]
theorem usesL_mem {rs : List Road} {F : List Pl} {e : Nat} (h : e < rs.length) : (useF rs F e : Int) ∈ usesL rs F := by
  rw [usesL_eq]
  exact List.mem_map.mpr ⟨e, List.mem_range.mpr h, rfl⟩
theorem pen_neP {p : Addr} {k : Nat} {H : Hp} {v : V} {l : List Road} (hp : PenAt p k H) (r : (dL (dP dI dI)).r H v l) : v ≠ .ref p := by
  rintro rfl
  obtain ⟨a, b, c, h, _⟩ := hp
  obtain ⟨q, xs, e, h1, h2, _⟩ := r
  cases e
  rw [h] at h1
  cases h1
  cases h2 with
  | cons r _ =>
    obtain ⟨_, _, _, z, _⟩ := r
    cases z
abbrev sp_law_calm  : Sp := fun vs H Q _ => ∃ (p : Addr) (m : Nat) (v : V) (N : NetD), vs = [.ref p, .int N.1, v] ∧ PenAt p m H ∧ m < 10000000 ∧ (dL (dP dI dI)).r H v N.2 ∧ NetOk N ∧ ∀ w F H', ExB p H H' → PenAt p (m + 100) H' → (dT (dT dI)).r H' w F → FamOk N F → Q w H'
abbrev H_law_calm (P : Program) (w : World) (K : PySem.W.Frag) (mg : Str → Option Value) (base : Heap)  : Prop := FnAt P w K mg base "_law_calm" 4 ["_law_pen_here", "_law_many", "_law_roads"] sp_law_calm
theorem calm_len : ∀ vs H Q E, sp_law_calm vs H Q E → vs.length = (["_law_pen_here", "_law_many", "_law_roads"] : List Str).length := fun vs H Q E ⟨p, m, v, N, e, _⟩ => by rw [e]; rfl
theorem ok_law_calm {P : Program} {w : World} {K : PySem.W.Frag} {mg : Str → Option Value} {base : Heap}  (D : DefAt K mg "_law_calm" s_law_calm) (B : Bts mg) (h_law_cuts : H_law_cuts P w K mg base) (h_law_uncrossed : H_law_uncrossed P w K mg base) (h_law_pick : H_law_pick P w K mg base) (h_law_uses : H_law_uses P w K mg base) (h_law_draw : H_law_draw P w K mg base)  : H_law_calm P w K mg base := by
  refine fnAt D sc_law_calm (fun _ _ _ _ _ _ us hl => match us, hl with | [_, _, _], _ => rfl) calm_len fun fad cdv A outer s H vs Q E hr h => ⟨_, PSs.nox (pss_cons (ps_par (i := 3) (j := 4) (by rfl) sc_law_calm.nd rfl rfl (by decide) rfl rfl (pa_cons (pcall h_law_cuts hr (by decide) rfl (pa_cons (pv 1) (pa_cons (pv 2) pa_nil))) (pa_cons (pe_tup pa_nil) pa_nil)) (by rfl))
    (pss_cons (ps_for PassesOwn.never rfl (pi_range1 (by rfl) B.range (pa_cons (pe_ifExp (pt_cmpR (kNe K hr.units) (pv 3) (pe_lst pa_nil) (nomark _)) pe_int pe_int) pa_nil)) (pg_name (i := 5) sc_law_calm.nd rfl (by first | exact Or.inl rfl | exact Or.inr rfl))
    (pss_cons (ps_set (i := 6) sc_law_calm.nd rfl (by first | exact Or.inl rfl | exact Or.inr rfl) (pe_op (kPlus K) (pv 4) (pe_tup (pa_cons (pcall h_law_pick hr (by decide) rfl (pa_cons (pv 0) (pa_cons (pv 3) pa_nil))) pa_nil))))
    (pss_one (ps_if (pt_cmpR op_lt (pe_callB (kMax K hr.units) (by rfl) B.max (by decide +kernel) (pa_cons (pcall h_law_uses hr (by decide) rfl (pa_cons (pv 2) (pa_cons (pv 6) pa_nil))) pa_nil)) pe_int (nomark _)) (pss_one (ps_set (i := 4) sc_law_calm.nd rfl (by first | exact Or.inl rfl | exact Or.inr rfl) (pv 6))) pss_nil))))
    (pss_cons (ps_par (i := 7) (j := 8) (by rfl) sc_law_calm.nd rfl rfl (by decide) rfl rfl (pa_cons (pe_callTy (kList K) (by rfl) B.list (by decide +kernel) (pa_cons (pcall h_law_uncrossed hr (by decide) rfl (pa_cons (pv 1) (pa_cons (pv 4) pa_nil))) pa_nil)) (pa_cons (pe_tup pa_nil) pa_nil)) (by rfl))
    (pss_cons (ps_for PassesOwn.never rfl (pi_range1 (by rfl) B.range (pa_cons (pe_callB (kLen K) (by rfl) B.len PySem.boot_len (pa_cons (pv 7) pa_nil)) pa_nil)) (pg_name (i := 5) sc_law_calm.nd rfl (by first | exact Or.inl rfl | exact Or.inr rfl))
    (pss_one (ps_set (i := 8) sc_law_calm.nd rfl (by first | exact Or.inl rfl | exact Or.inr rfl) (pe_op (kPlus K) (pv 8) (pe_tup (pa_cons (pe_bm PySem.F.plainAttrs_list PySem.F.slot_list_pop PySem.F.type_list_pop mt_popAt (pv 7) (pa_cons (pcall h_law_draw hr (by decide) rfl (pa_cons (pv 0) (pa_cons (pe_callB (kLen K) (by rfl) B.len PySem.boot_len (pa_cons (pv 7) pa_nil)) pa_nil))) pa_nil)) pa_nil))))))
    (pss_one (ps_ret (pv 8))))))), ?_⟩
  obtain ⟨p, m, v, N, rfl, hp, hm, rr, hN, q⟩ := h
  obtain ⟨many, rs⟩ := N
  have n2 : 2 ≤ many := hN.n2
  have n6 : many ≤ 6 := hN.n6
  have r1 : 1 ≤ rs.length := hN.r1
  have r7 : rs.length ≤ 7 := hN.r7
  refine kP_par (b := ([] : List Pl)) (f := dT (dT dI)) (p_call2V (v_var (e := dI) rfl rfl) (v_var rfl rr) (by omega)) v_tup0 fun v3 v4 H1 l x1 rl rF hl => ?_
  have rr1 := (dL (dP dI dI)).up x1 rr
  have hp1 := hp.up x1
  refine kq_forR1 (n := if decide (l ≠ []) = true then 12 else 0) (v_if (t_test (v_ne (encL (encT encI)) (v_var rfl rl) v_lst0)) (fun hb => EvV.is v_int (by rw [if_pos hb])) fun hb => EvV.is v_int (by rw [if_neg (by rw [hb]; exact Bool.false_ne_true)])) (by split <;> omega) (by split <;> omega)
    (fun i σ' H' => ∃ (F : List Pl) (v4 : V) (o5 o6 : Option V), σ' = [some (.ref p), some (.int many), some v, some v3, some v4, o5, o6, none, none] ∧ ExB p H H' ∧ PenAt p (m + i) H' ∧ (dL (dP dI dI)).r H' v rs ∧ (dL (dT dI)).r H' v3 l ∧ (dT (dT dI)).r H' v4 F ∧ F.length ≤ i ∧ (∀ q, q ∈ F → q ∈ l) ∧ ∀ e, e < rs.length → useF rs F e ≤ 2)
    (fun H2 x2 => ⟨[], v4, _, _, rfl, ExB.of (x1.trans x2), hp1.up x2, (dL (dP dI dI)).up x2 rr1, (dL (dT dI)).up x2 rl, (dT (dT dI)).up x2 rF, Nat.zero_le _, (fun _ h => by cases h), fun e he => by show useF rs [] e ≤ 2; exact Nat.zero_le _⟩) ?_ ?_
  · rintro i σ' H2 hi ⟨F, v4, o5, o6, rfl, y2, hp2, rr2, rl2, rF2, hlF, hFl, hu⟩
    have hl0 : l ≠ [] := fun z => by
      subst z
      simp at hi
    rw [if_pos (decide_eq_true hl0)] at hi
    have hi : i < 12 := hi
    refine kd_set (d_addT (im_T im_I) rfl hp2 rF2 (d_tup1 (d_pick rfl rfl rl2 hp2 (by omega) (List.length_pos_iff.mpr hl0))) (fun b ⟨a, _, e⟩ => by rw [e]; show _ ≤ 4000; simp; omega)) fun v6 H3 F2 x3 hp3 r6 hF2 => ?_
    obtain ⟨b, ⟨a, ha, rfl⟩, rfl⟩ := hF2
    have rr3 := dL_exb (im_P im_I im_I) x3 hp2 (pen_neP hp2 rr2) rr2
    have rl3 := dL_exb (im_T im_I) x3 hp2 (pen_ne hp2 rl2) rl2
    have rF3 := im_T (im_T im_I) (hp2.tx x3) rF2
    obtain ⟨M, hM⟩ := great_ex (l := usesL rs (F ++ [a])) (by rw [usesL_len]; omega)
    refine k_when (t_test (v_IB ((p_maxT (v_call2 (v_var rfl rr3) (v_var rfl r6) (show rs.length ≤ 1000 by omega) fun y h => h) (by rw [usesL_len]; omega)).v fun z hz => great_one hz hM) v_int)) (fun hb H4 x4 => ?_) fun hb H4 x4 => ?_
    · refine k_setV1 (v_var rfl ((dT (dT dI)).up x4 r6)) fun w5 H5 x5 r5 => ?_
      have x45 := x4.trans x5
      refine ⟨F ++ [a], w5, _, _, rfl, (y2.trans x3).trans (ExB.of x45), (hp3.up x45).le (by omega), (dL (dP dI dI)).up x45 rr3, (dL (dT dI)).up x45 rl3, r5, by rw [List.length_append]; simp; omega, fun q hq => ?_, fun e he => ?_⟩
      · rcases List.mem_append.mp hq with hq | hq
        · exact hFl q hq
        · rw [List.mem_singleton.mp hq]
          exact ha
      · have h1 := hM.2 _ (usesL_mem he)
        have h2 := of_decide_eq_true hb
        omega
    · exact ⟨F, v4, _, _, rfl, (y2.trans x3).trans (ExB.of x4), (hp3.up x4).le (by omega), (dL (dP dI dI)).up x4 rr3, (dL (dT dI)).up x4 rl3, (dT (dT dI)).up x4 rF3, by omega, hFl, hu⟩
  · rintro σ' H2 ⟨F, v4, o5, o6, rfl, y2, hp2, rr2, rl2, rF2, hlF, hFl, hu⟩
    have hp2 := hp2.le (k := m + 12) (by split <;> simp <;> omega)
    have hlF : F.length ≤ 12 := Nat.le_trans hlF (by split <;> simp)
    have hcut : ∀ q, q ∈ F → IsCut many.toNat rs q := fun q hq => (hl q).mp (hFl q hq)
    refine kN_par (b := ([] : List Pl)) (f := dT (dT dI)) (n_listTP (p_call2V (a := many) (v_var (e := dI) rfl rfl) (v_var rfl rF2) ⟨by omega, by omega, by omega, rs, hcut⟩)) v_tup0 fun pr v8 H3 xr lr hpr x3 hxr hrr hlr r8 hpost => ?_
    obtain ⟨c1, c2, c3, c4⟩ := hpost rs hcut
    have nepr : pr ≠ p := hp2.ne hpr
    have hprH : H pr = none := by
      cases h : H pr with
      | none => rfl
      | some o => rw [y2 pr o nepr h] at hpr; cases hpr
    have lxr : xr.length = lr.length := Paired.length hrr
    have hl12 : lr.length ≤ 12 := by rw [c2]; exact hlF
    refine kq_forR1 (n := (lr.length : Int)) (v_lenL (v_var rfl ⟨pr, xr, rfl, hxr, hrr, hlr⟩)) (by omega) (by omega)
      (fun i σ' H' => ∃ (xr : List V) (lr' F8 : List Pl) (v8 : V) (o5 : Option V), σ' = [some (.ref p), some (.int many), some v, some v3, some v4, o5, o6, some (.ref pr), some v8] ∧ ExB p H H' ∧ PenAt p (m + 12 + i) H' ∧ H' pr = some (.lst xr) ∧ AllR (dT dI) H' xr lr' ∧ (dT (dT dI)).r H' v8 F8 ∧ lr'.length = lr.length - i ∧ (F8 ++ lr').Perm lr)
      (fun H4 x4 => ⟨xr, lr, [], v8, _, rfl, y2.trans (ExB.of (x3.trans x4)), hp2.up (x3.trans x4), x4 _ _ hxr, AllR.up x4 hrr, (dT (dT dI)).up x4 r8, by omega, List.Perm.refl _⟩) ?_ ?_
    · rintro i σ' H4 hi ⟨xr, lr', F8, v8, o5, rfl, y4, hp4, hxr, hrr, r8, hll, hperm⟩
      have hi : i < lr.length := by simpa using hi
      have lxr : xr.length = lr'.length := Paired.length hrr
      have lF := hperm.length_eq
      rw [List.length_append] at lF
      refine kd_addPop (im_T im_I) rfl r8 (by show _ ≤ 4000; omega) rfl hxr hrr nepr (by omega) hp4 (d_draw rfl (v_lenL (v_var rfl ⟨pr, xr, rfl, hxr, hrr, by show _ ≤ 4000; omega⟩)) hp4 (by omega) (by omega) (by omega)) fun H5 k z w H6 x5 hp5 hz x6 r6 => ?_
      have tx : Tx H4 H6 := ((hp4.tx x5).trans (Tx.upd (x5 pr _ nepr hxr))).trans (Tx.of x6)
      have hkl := (List.getElem?_eq_some_iff.mp hz).1
      exact ⟨xr.eraseIdx k, lr'.eraseIdx k, F8 ++ [z], w, _, rfl, (exb_mut (y4.trans x5) hprH).trans (ExB.of x6), ((hp5.other nepr).up x6).le (by omega), x6 _ _ upd_same, pd_erase (AllR.im (im_T im_I) tx hrr) k, r6, by rw [List.length_eraseIdx_of_lt hkl, hll]; omega, (pop_perm2 hz).trans hperm⟩
    · rintro σ' H4 ⟨xr, lr', F8, v8, o5, rfl, y4, hp4, hxr, hrr, r8, hll, hperm⟩
      have e0 : lr' = [] := List.eq_nil_of_length_eq_zero (by rw [hll]; simp)
      subst e0
      rw [List.append_nil] at hperm
      refine k_retV (v_var rfl r8) fun w H5 x5 r5 => q w F8 H5 (y4.trans (ExB.of x5)) ((hp4.up x5).le (by simp; omega)) r5 ⟨fun q hq => c1 q (hperm.mem_iff.mp hq), by rw [hperm.length_eq]; exact hl12, fun e he => ?_, calm_perm (fun p h => (c1 p h).asc) hperm.symm c4⟩
      have e1 : useF rs F8 e = useF rs lr e := hperm.countP_eq _
      show useF rs F8 e ≤ 2
      rw [e1, c3]
      exact hu e he
end Ow
-- OwG1
/-! The text of a net. -/
namespace Ow
open PySem PySem.Spec PyProof.Rows L2 Evl TL

def Dg (i : Int) : Prop := 0 ≤ i ∧ i < 10
def dg (i : Int) : Str := Str.ofString (toString i)
theorem dg_tl {i : Int} (h : Dg i) : tl (dg i) = [48 + i.toNat] := by
  obtain ⟨h0, h1⟩ := h
  obtain ⟨n, rfl⟩ : ∃ n : Nat, i = (n : Int) := ⟨i.toNat, by omega⟩
  unfold dg
  rw [tl_num, numL_lt (by omega)]
  rfl
theorem dg_len {i : Int} (h : Dg i) : (dg i).length = 1 := by rw [len_tl, dg_tl h]; rfl
theorem dg_mk {i : Int} (h : Dg i) : dg i = ⟨#[48 + i.toNat]⟩ := ext_tl (dg_tl h)
theorem dg_int {i : Int} (h : Dg i) : PySem.intText? (dg i) = some i := by
  obtain ⟨h0, h1⟩ := h
  obtain ⟨n, rfl⟩ : ∃ n : Nat, i = (n : Int) := ⟨i.toNat, by omega⟩
  exact int_num (by rw [numL_lt (by omega)]; show 1 ≤ 4300; decide)
def sDigits : Str := "0123456789"
theorem dg_in {i : Int} (h : Dg i) : (!(Builtin.Str.occurrences sDigits (dg i) 0 sDigits.length 1).isEmpty) = true := by
  rw [dg_mk h, PySem.StrLaws.found_one]
  obtain ⟨h0, h1⟩ := h
  have h2 : i.toNat < 10 := by omega
  revert h2
  generalize i.toNat = k
  intro h2
  match k, h2 with
  | 0, _ => decide +kernel
  | 1, _ => decide +kernel
  | 2, _ => decide +kernel
  | 3, _ => decide +kernel
  | 4, _ => decide +kernel
  | 5, _ => decide +kernel
  | 6, _ => decide +kernel
  | 7, _ => decide +kernel
  | 8, _ => decide +kernel
  | 9, _ => decide +kernel
def sSp : Str := " "
def sNl : Str := "\n"
def sHead : Str := "places "
theorem tl_sp : tl sSp = [32] := by decide +kernel
theorem tl_nl : tl sNl = [10] := by decide +kernel
theorem tl_head : tl sHead = [112, 108, 97, 99, 101, 115, 32] := by decide +kernel
def lineOf (r : Road) : Str := dg r.1 ++ sSp ++ dg r.2
def headOf (m : Int) : Str := sHead ++ dg m
def linesOf (N : NetD) : List Str := headOf N.1 :: N.2.map lineOf
def bodyOf (N : NetD) : Str := Txt.join sNl (linesOf N)
def textOf (N : NetD) : Str := bodyOf N ++ sNl
abbrev DgR (r : Road) : Prop := Dg r.1 ∧ Dg r.2
structure DgN (N : NetD) : Prop where
  many : Dg N.1
  roads : ∀ r, r ∈ N.2 → DgR r
theorem line_tl {r : Road} (h : DgR r) : tl (lineOf r) = [48 + r.1.toNat, 32, 48 + r.2.toNat] := by
  unfold lineOf
  rw [tl_append, tl_append, dg_tl h.1, dg_tl h.2, tl_sp]
  rfl
theorem line_split {r : Road} (h : DgR r) : Txt.split (lineOf r) sSp = [dg r.1, dg r.2] := by
  have e : lineOf r = Txt.join sSp [dg r.1, dg r.2] := by rw [join_eq]; rfl
  rw [e]
  refine split_join tl_sp (by decide +kernel) (by simp) fun p hp => ?_
  rcases List.mem_cons.mp hp with rfl | hp
  · rw [dg_tl h.1]
    simp
    omega
  · rw [List.mem_singleton.mp hp, dg_tl h.2]
    simp
    omega
theorem head_tl {m : Int} (h : Dg m) : tl (headOf m) = [112, 108, 97, 99, 101, 115, 32, 48 + m.toNat] := by
  unfold headOf
  rw [tl_append, tl_head, dg_tl h]
  rfl
theorem lines_free {N : NetD} (h : DgN N) : ∀ p, p ∈ linesOf N → 10 ∉ tl p := fun p hp => by
  rcases List.mem_cons.mp hp with rfl | hp
  · rw [head_tl h.many]
    simp
    omega
  · obtain ⟨r, hr, rfl⟩ := List.mem_map.mp hp
    rw [line_tl (h.roads r hr)]
    simp
    omega
theorem body_split {N : NetD} (h : DgN N) : Txt.split (bodyOf N) sNl = linesOf N := split_join tl_nl (by decide +kernel) (by simp [linesOf]) (lines_free h)
theorem text_cut (N : NetD) : cutS (textOf N) none (some (-1)) = bodyOf N := by
  refine ext_tl ?_
  unfold cutS
  have hl : (textOf N).length = (tl (bodyOf N)).length + 1 := by
    rw [len_tl, textOf, tl_append, tl_nl, List.length_append]
    rfl
  have e1 : HT.sIx (textOf N).length 0 none = 0 := rfl
  have e2 : HT.sIx (textOf N).length (textOf N).length (some (-1)) = (tl (bodyOf N)).length := by
    rw [hl]
    show (if (-1 : Int) < 0 then ((-1 : Int) + (((tl (bodyOf N)).length + 1 : Nat) : Int)).toNat else min (-1 : Int).toNat ((tl (bodyOf N)).length + 1)) = _
    rw [if_pos (by decide)]
    omega
  rw [e1, e2]
  show ((tl (textOf N)).drop 0).take _ = _
  rw [List.drop_zero, Nat.sub_zero, textOf, tl_append, List.take_left]
theorem head_cut {m : Int} (h : Dg m) : cutS (headOf m) (some 7) none = dg m := by
  refine ext_tl ?_
  unfold cutS
  have hl : (headOf m).length = 8 := by rw [len_tl, head_tl h]; rfl
  rw [hl]
  show ((tl (headOf m)).drop _).take _ = _
  rw [head_tl h, dg_tl h]
  rfl
theorem text_ends (N : NetD) : Txt.endswith (textOf N) sNl = true := by
  have hl : (textOf N).length = (tl (bodyOf N)).length + 1 := by
    rw [len_tl, textOf, tl_append, tl_nl, List.length_append]
    rfl
  have h1 : sNl.length = 1 := by rw [len_tl, tl_nl]; rfl
  unfold Txt.endswith
  rw [PySem.StrLaws.subAt_eq, hl, h1, Nat.add_sub_cancel]
  have e : (textOf N).cps.toList = tl (bodyOf N) ++ [10] := by
    show tl (textOf N) = _
    rw [textOf, tl_append, tl_nl]
  rw [e, List.drop_left, show sNl.cps.toList = [10] from tl_nl]
  simp
theorem headOf_len {m : Int} (h : Dg m) : (headOf m).length = 8 := by rw [len_tl, head_tl h]; rfl
theorem lineOf_len {r : Road} (h : DgR r) : (lineOf r).length = 3 := by rw [len_tl, line_tl h]; rfl
theorem sum_le {l : List Nat} {c : Nat} (h : ∀ x, x ∈ l → x ≤ c) : l.sum ≤ l.length * c := by
  induction l with
  | nil => exact Nat.zero_le _
  | cons a l ih =>
    rw [List.sum_cons, List.length_cons, Nat.succ_mul]
    have := h a (List.mem_cons_self ..)
    have := ih fun x hx => h x (List.mem_cons_of_mem _ hx)
    omega
theorem lines_len {N : NetD} (h : DgN N) : ∀ p, p ∈ linesOf N → p.length ≤ 8 := fun p hp => by
  rcases List.mem_cons.mp hp with rfl | hp
  · rw [headOf_len h.many]
    omega
  · obtain ⟨r, hr, rfl⟩ := List.mem_map.mp hp
    rw [lineOf_len (h.roads r hr)]
    omega
theorem joinL_len (S : List Nat) {c : Nat} : ∀ {l : List (List Nat)}, (∀ p, p ∈ l → p.length ≤ c) → (joinL S l).length ≤ l.length * (c + S.length)
  | [], _ => Nat.zero_le _
  | [p], h => by
    have := h p (List.mem_singleton.mpr rfl)
    show p.length ≤ 1 * (c + S.length)
    omega
  | p :: q :: r, h => by
    show (p ++ (S ++ joinL S (q :: r))).length ≤ _
    have h1 := h p (List.mem_cons_self ..)
    have h2 := joinL_len S (c := c) (l := q :: r) fun x hx => h x (List.mem_cons_of_mem _ hx)
    rw [List.length_append, List.length_append]
    have e : (p :: q :: r).length * (c + S.length) = (q :: r).length * (c + S.length) + (c + S.length) := by
      rw [List.length_cons, Nat.succ_mul]
    omega
theorem body_len {N : NetD} (h : DgN N) (hl : N.2.length ≤ 7) : (bodyOf N).length ≤ 100 := by
  unfold bodyOf
  rw [len_tl, join_eq, tl_join, tl_nl]
  have := joinL_len [10] (c := 8) (l := (linesOf N).map tl) fun p hp => by
    obtain ⟨q, hq, rfl⟩ := List.mem_map.mp hp
    rw [← len_tl]
    exact lines_len h q hq
  have e : ((linesOf N).map tl).length ≤ 8 := by
    rw [List.length_map]
    unfold linesOf
    rw [List.length_cons, List.length_map]
    omega
  have e2 : ((linesOf N).map tl).length * (8 + [10].length) ≤ 8 * (8 + [10].length) := Nat.mul_le_mul_right _ e
  have e3 : 8 * (8 + [10].length) = 72 := rfl
  omega
end Ow
-- OwF17
/-! The text of a net: written and read. -/
namespace Ow
open PySem PySem.Spec PyProof.Rows L2 Evl TL

def dDig : Rl Int := ⟨fun _ v i => v = .str (dg i), fun _ h => h⟩
def dLine : Rl Road := ⟨fun _ v r => v = .str (lineOf r), fun _ h => h⟩
def dText : Rl NetD := ⟨fun _ v N => v = .str (textOf N), fun _ h => h⟩
section
variable {α β γ : Type} {K : PySem.W.Frag} {σ : L2.St} {H H' : Hp} {te ta tb tc : TE} {e : Rl α} {f : Rl β}
theorem EvV.conv {a : α} {b : β} (h : EvV e te σ H a) (c : ∀ H v, e.r H v a → f.r H v b) : EvV f te σ H b := fun H1 x Q q => h H1 x Q fun w H2 x2 r => q w H2 x2 (c H2 w r)
theorem strs_can {l : List Str} (h : ∀ p, p ∈ l → PyData.canLay0 (.str p) = true) : PyData.canLayAll0 (l.map PyData.str) = true := by
  induction l with
  | nil => rfl
  | cons a l ih =>
    show (PyData.canLay0 (.str a) && PyData.canLayAll0 (l.map PyData.str)) = true
    rw [h a (List.mem_cons_self ..), ih fun p hp => h p (List.mem_cons_of_mem _ hp)]
    rfl
theorem strs_dep : ∀ l : List Str, PyData.depthAll (l.map PyData.str) ≤ 0
  | [] => Nat.le_refl _
  | a :: l => by
    show max (PyData.depth (.str a)) (PyData.depthAll (l.map PyData.str)) ≤ 0
    have h1 : PyData.depth (.str a) = 0 := rfl
    have h2 := strs_dep l
    omega
theorem strs_eqv : ∀ l : List Str, PyData.eqvAll (l.map PyData.str) (l.map PyData.str) = true
  | [] => rfl
  | a :: l => by
    show (PyData.eqv (.str a) (.str a) && PyData.eqvAll (l.map PyData.str) (l.map PyData.str)) = true
    rw [strs_eqv l, Bool.and_true]
    show (a == a) = true
    exact beq_self_eq_true a
theorem strs_dp {H : Hp} : ∀ l : List Str, DpAll K H (l.map V.str) (l.map PyData.str)
  | [] => .nil
  | a :: l => .cons (.str a) (strs_dp l)
/-- two equal lists of texts compared -/
theorem v_neLS {l : List Str} (h : ∀ p, p ∈ l → PyData.canLay0 (.str p) = true) (ha : EvV (dL dS) ta σ H l) (hb : EvV (dL dS) tb σ H l) : EvV dB (tOp (rNeD K) ta tb) σ H false := v_op ha hb fun H2 v w _ r1 r2 Q q => by
  obtain ⟨p, xs, rfl, hp, hx, _⟩ := r1
  obtain ⟨p', ys, rfl, hp', hy, _⟩ := r2
  have hx := allS hx
  have hy := allS hy
  subst hx
  subst hy
  have sh : SeqAt.shaped (.list (l.map PyData.str)) = true := by
    unfold SeqAt.shaped
    rw [show PyData.canLay0 (.list (l.map PyData.str)) = true from strs_can h, Bool.true_and]
    refine decide_eq_true ?_
    show PyData.depthAll (l.map PyData.str) + 1 ≤ 64
    have := strs_dep l
    omega
  refine ⟨_, _, .lst (sq_of hp) (strs_dp l), .lst (sq_of hp') (strs_dp l), sh, sh, q _ H2 (Ex.refl H2) ?_⟩
  show V.bl (!PyData.eqvAll (l.map PyData.str) (l.map PyData.str)) = V.bl false
  rw [strs_eqv]
  rfl
theorem v_strI {i : Int} (h : EvV dI ta σ H i) (hd : Dg i) : EvV dS (tCB (fun xs H Q => ∃ i, xs = [.int i] ∧ i.natAbs.log2 < 1920 ∧ Q (.str (toString i)) H) (tCons ta tNil)) σ H (dg i) := v_cb1 h fun H2 v _ r1 Q q => ⟨i, by rw [show v = V.int i from r1], by
  obtain ⟨h0, h1⟩ := hd
  have h2 : i.natAbs < 2 ^ 4 := by omega
  exact Nat.lt_of_lt_of_le (PySem.Flt.log2_lt_of (by decide) h2) (by decide), q _ H2 (Ex.refl H2) rfl⟩
theorem v_intS {i : Int} (h : EvV dDig ta σ H i) (hd : Dg i) : EvV dI (tCB (fun xs H Q => ∃ a n, xs = [.str a] ∧ PySem.intText? a = some n ∧ a.length ≤ 640 ∧ Q (.int n) H) (tCons ta tNil)) σ H i := v_cb1 h fun H2 v _ r1 Q q => ⟨dg i, i, by rw [show v = V.str (dg i) from r1], dg_int hd, by rw [dg_len hd]; omega, q _ H2 (Ex.refl H2) rfl⟩
theorem v_inS {i : Int} (h : EvV dDig ta σ H i) (hd : Dg i) : EvV dB (tOp (rInU K) ta (tC (.str sDigits))) σ H true := v_op h (v_str (z := sDigits)) fun H2 v w _ r1 r2 Q q => .inr ⟨dg i, sDigits, r1, r2, by rw [dg_in hd]; exact q _ H2 (Ex.refl H2) rfl⟩
/-- f'{a} {b}' -/
theorem v_fline {r : Road} (ha : EvV dI ta σ H r.1) (hb : EvV dI tb σ H r.2) (hr : DgR r) : EvV dS (fun σ H Q => tJs [tFmt ta, tC (.str sSp), tFmt tb] Str.empty σ H fun out H1 => Q (.str out) H1) σ H (lineOf r) := fun H1 x Q q => by
  have lg : ∀ {i : Int}, Dg i → i.natAbs.log2 < 1920 := fun {i} hd => by
    obtain ⟨h0, h1⟩ := hd
    have h2 : i.natAbs < 2 ^ 4 := by omega
    exact Nat.lt_of_lt_of_le (PySem.Flt.log2_lt_of (by decide) h2) (by decide)
  have e1 : Str.empty ++ dg r.1 = dg r.1 := ext_tl (by rw [tl_append]; rfl)
  have e3 : (dg r.1 ++ sSp ++ dg r.2 : Str) = lineOf r := rfl
  have z : 1000 ≤ sizeLine := by decide
  have l1 := dg_len hr.1
  have l2 := lineOf_len hr
  refine ha H1 x _ fun v H2 x2 r1 => .inr ⟨r.1, r1, lg hr.1, dg r.1, rfl, ?_, sSp, rfl, ?_, ?_⟩
  · rw [e1, l1]
    omega
  · rw [e1, len_tl, tl_append, dg_tl hr.1, tl_sp]
    show 2 ≤ sizeLine
    omega
  · refine hb H2 (x.trans x2) _ fun w H3 x3 r2 => .inr ⟨r.2, r2, lg hr.2, dg r.2, rfl, ?_, ?_⟩
    · rw [e1, e3, l2]
      omega
    · show Q (.str (Str.empty ++ dg r.1 ++ sSp ++ dg r.2)) H3
      rw [e1, e3]
      exact q _ H3 (x2.trans x3) rfl
theorem v_split {a b : Str} (h : EvV dS ta σ H a) (hb : EvV dS tb σ H b) (h0 : (b.length == 0) = false) (hl : a.length ≤ 1000) (hs : (Txt.split a b).length ≤ 4000) : EvV (dL dS) (tM1 (fun x xs H Q => ∃ a b, x = .str a ∧ xs = [.str b] ∧ (b.length == 0) = false ∧ a.length + 2 ≤ sizeLine ∧ rNewStrs (Txt.split a b) H Q) ta tb) σ H (Txt.split a b) := fun H1 x Q q =>
  h H1 x _ fun v H2 x2 r1 => ⟨⟨a, r1⟩, hb H2 (x.trans x2) _ fun w H3 x3 r2 => ⟨a, b, r1, by rw [show w = V.str b from r2], h0, Nat.le_trans (show a.length + 2 ≤ 2000 by omega) (by decide), fun p hp => q _ _ ((x2.trans x3).trans (Ex.new hp)) ⟨p, _, rfl, upd_same, allS' _ _, hs⟩⟩⟩
theorem v_join {a : Str} {l : List Str} (h : EvV dS ta σ H a) (hb : EvV (dL dS) tb σ H l) (hz : (l.map (·.length)).sum + l.length * a.length ≤ 16777216) : EvV dS (tM1 (fun x xs H Q => ∃ a p, ∃ ys : List Str, x = .str a ∧ xs = [.ref p] ∧ (SqL K H p (ys.map V.str) ∨ SqT K H p (ys.map V.str)) ∧
      (ys.map (·.length)).sum + ys.length * a.length ≤ 16777216 ∧ Q (.str (Txt.join a ys)) H) ta tb) σ H (Txt.join a l) := fun H1 x Q q =>
  h H1 x _ fun v H2 x2 r1 => ⟨⟨a, r1⟩, hb H2 (x.trans x2) _ fun w H3 x3 r2 => by
    obtain ⟨p, xs, rfl, hp, hx, _⟩ := r2
    have hx := allS hx
    subst hx
    exact ⟨a, p, l, r1, rfl, .inl (sq_of hp), hz, q _ H3 (x2.trans x3) rfl⟩⟩
theorem v_ends {a b : Str} (h : EvV dS ta σ H a) (hb : EvV dS tb σ H b) : EvV dB (tM1 (fun x xs H Q => ∃ a b, x = .str a ∧ xs = [.str b] ∧ Q (.bl (Txt.endswith a b)) H) ta tb) σ H (Txt.endswith a b) := fun H1 x Q q =>
  h H1 x _ fun v H2 x2 r1 => ⟨⟨a, r1⟩, hb H2 (x.trans x2) _ fun w H3 x3 r2 => ⟨a, b, r1, by rw [show w = V.str b from r2], q _ H3 (x2.trans x3) rfl⟩⟩
theorem v_cutTo {a : Str} {i : Int} (h : EvV dS ta σ H a) (hi : EvV dI tb σ H i) (hl : a.length ≤ 1000) : EvV dS (tSl (rSlU K) ta tNoPart (tPart tb)) σ H (cutS a none (some i)) := fun H1 x Q q =>
  h H1 x _ fun v H2 x2 r1 => hi H2 (x.trans x2) _ fun w H3 x3 r2 => ⟨i, r2, .inr (.inr ⟨a, r1, Nat.le_trans hl (by decide), q _ H3 (x2.trans x3) rfl⟩)⟩
theorem v_cutFrom {a : Str} {i : Int} (h : EvV dS ta σ H a) (hi : EvV dI tb σ H i) (hl : a.length ≤ 1000) : EvV dS (tSl (rSlU K) ta (tPart tb) tNoPart) σ H (cutS a (some i) none) := fun H1 x Q q =>
  h H1 x _ fun v H2 x2 r1 => hi H2 (x.trans x2) _ fun w H3 x3 r2 => ⟨i, r2, .inr (.inr ⟨a, r1, Nat.le_trans hl (by decide), q _ H3 (x2.trans x3) rfl⟩)⟩
end

theorem lines_ok {N : NetD} (h : DgN N) : ∀ p, p ∈ linesOf N → PyData.canLay0 (.str p) = true := fun p hp => by
  show p.cps.all (· < 0x110000) = true
  have lo : ∀ {i : Int}, Dg i → i.toNat < 10 := fun {i} ⟨h0, h1⟩ => by omega
  rw [← Array.all_toList]
  show (tl p).all (· < 0x110000) = true
  rcases List.mem_cons.mp hp with rfl | hp
  · rw [head_tl h.many]
    have := lo h.many
    simp
    omega
  · obtain ⟨r, hr, rfl⟩ := List.mem_map.mp hp
    rw [line_tl (h.roads r hr)]
    have h1 := lo (h.roads r hr).1
    have h2 := lo (h.roads r hr).2
    simp
    omega
abbrev sp_digit_in  : Sp := sp1 dDig dI Dg fun i y => y = i
abbrev H_digit_in (P : Program) (w : World) (K : PySem.W.Frag) (mg : Str → Option Value) (base : Heap)  : Prop := FnAt P w K mg base "digit_in" 1 ["word"] sp_digit_in
theorem ok_digit_in {P : Program} {w : World} {K : PySem.W.Frag} {mg : Str → Option Value} {base : Heap}  (D : DefAt K mg "digit_in" s_digit_in) (B : Bts mg)  : H_digit_in P w K mg base := by
  refine fnAt D sc_digit_in (fun _ _ _ _ _ _ us hl => match us, hl with | [_], _ => rfl) sp1_len fun fad cdv A outer s H vs Q E hr h => ⟨_, PSs.nox (pss_one (ps_ret (pe_ifExp (PW.pt (pw_and (pt_cmpR (kEq K hr.units) (pe_callB (kLen K) (by rfl) B.len PySem.boot_len (pa_cons (pv 0) pa_nil)) pe_int (nomark _)) (pw_and1 (pt_cmpR (kIn K) (pv 0) pe_str (by rfl))))) (pe_callTy call_int_str (by rfl) B.int (by decide +kernel) (pa_cons (pv 0) pa_nil)) pe_int))), ?_⟩
  obtain ⟨v1, i, rfl, ra, hd, q⟩ := h
  have rS : dS.r H v1 (dg i) := ra
  refine k_retV (y := i) (v_if (b := true) (EvT.is (et_and (t_test (v_eq encI (v_lenS (v_var rfl rS) (by rw [dg_len hd]; omega)) v_int)) fun _ => t_test (v_inS (v_var rfl ra) hd)) (by rw [dg_len hd]; rfl)) (fun _ => v_intS (v_var rfl ra) hd) fun hb => absurd hb (by decide)) fun w H1 x r => q w H1 _ x r rfl

abbrev sp_net_lines  : Sp := sp2 dI (dL (dP dI dI)) (dL dS) (fun m rs => DgN (m, rs) ∧ rs.length ≤ 20) fun m rs y => y = linesOf (m, rs)
abbrev H_net_lines (P : Program) (w : World) (K : PySem.W.Frag) (mg : Str → Option Value) (base : Heap)  : Prop := FnAt P w K mg base "net_lines" 1 ["many", "roads"] sp_net_lines
theorem ok_net_lines {P : Program} {w : World} {K : PySem.W.Frag} {mg : Str → Option Value} {base : Heap}  (D : DefAt K mg "net_lines" s_net_lines) (B : Bts mg) (GL : Gls mg)  : H_net_lines P w K mg base := by
  refine fnAt D sc_net_lines (fun _ _ _ _ _ _ us hl => match us, hl with | [_, _], _ => rfl) sp2_len fun fad cdv A outer s H vs Q E hr h => ⟨_, PSs.nox (pss_one (ps_ret (pe_op (kPlus K) (pe_lst (pa_cons (pe_op (kPlus K) (pe_gstr rfl GL.HEAD) (pe_callTy call_str_int (by rfl) B.str (by decide +kernel) (pa_cons (pv 0) pa_nil))) pa_nil)) (pe_lc (own := [("first", 2), ("last", 3)]) rfl sc_net_lines.nd (kWalk K (pv 1))
      (blkOk_by (own := [("first", 2), ("last", 3)]) (N := N_net_lines) (sc := defScope s_net_lines) (by decide +kernel))
      (fun _ _ _ _ _ => (kTup K (n := 2) (pgs_cons (pg_name (i := 2) sc_net_lines.nd rfl (by first | exact Or.inl rfl | exact Or.inr rfl)) (pgs_cons (pg_name (i := 3) sc_net_lines.nd rfl (by first | exact Or.inl rfl | exact Or.inr rfl)) pgs_nil)))) (fun _ _ _ _ _ => pts_nil) (fun _ _ _ _ _ => (pe_joined (PJ.cons (pe_fmt (pv 2)) (PJ.cons pe_str (PJ.cons (pe_fmt (pv 3)) PJ.nil))))))))), ?_⟩
  obtain ⟨v1, v2, m, rs, rfl, ra, rb, ⟨hd, hl⟩, q⟩ := h
  refine k_retV (y := [headOf m] ++ rs.map lineOf) (v_addL (v_lst1 (v_addS (v_str (z := sHead)) (v_strI (v_var rfl ra) hd.many) (by rw [dg_len hd.many]; decide))) (v_lcN lineOf im_S (s_anyL (v_var rfl rb)) (dL_len rb) b_pair (fun _ _ _ ⟨_, _, e, _⟩ => by subst e; rfl) ?_) (by rw [List.length_map]; show 1 + _ ≤ 4000; omega)) fun w H1 x r => q w H1 _ x r rfl
  rintro r hr H3 H4 σ' x5 ⟨y, z, rfl, ry, rz⟩ x6
  exact v_fline (v_var rfl (dI.up x6 ry)) (v_var rfl (dI.up x6 rz)) (hd.roads r hr)

abbrev sp_row_in  : Sp := sp1 dLine (dP dI dI) DgR fun r y => y = r
abbrev H_row_in (P : Program) (w : World) (K : PySem.W.Frag) (mg : Str → Option Value) (base : Heap)  : Prop := FnAt P w K mg base "row_in" 2 ["line"] sp_row_in
theorem ok_row_in {P : Program} {w : World} {K : PySem.W.Frag} {mg : Str → Option Value} {base : Heap}  (D : DefAt K mg "row_in" s_row_in) (B : Bts mg) (h_digit_in : H_digit_in P w K mg base)  : H_row_in P w K mg base := by
  refine fnAt D sc_row_in (fun _ _ _ _ _ _ us hl => match us, hl with | [_], _ => rfl) sp1_len fun fad cdv A outer s H vs Q E hr h => ⟨_, PSs.nox (pss_one (ps_ret (pe_callTy (kTuple K) (by rfl) B.tuple (by decide +kernel) (pa_cons (pe_lc (own := [("word", 1)]) rfl sc_row_in.nd (kWalk K (pe_split (pv 0) pe_str))
      (blkOk_by (own := [("word", 1)]) (N := N_row_in) (sc := defScope s_row_in) (by decide +kernel))
      (fun _ _ _ _ _ => (pg_name (i := 1) sc_row_in.nd rfl (by first | exact Or.inl rfl | exact Or.inr rfl))) (fun _ _ _ _ _ => pts_nil) (fun _ _ _ _ _ => (pcall h_digit_in hr (by decide) rfl (pa_cons (pv 1) pa_nil)))) pa_nil)))), ?_⟩
  obtain ⟨v1, r, rfl, ra, hd, q⟩ := h
  have rS : dS.r H v1 (lineOf r) := ra
  have hsp := line_split hd
  refine k_retV (y := r) (EvV.conv (e := dT dI) (a := [r.1, r.2]) (v_tuple (v_lcN (e := dDig) (l := [r.1, r.2]) id im_I (s_anyL (EvV.conv (f := dL dDig) (b := [r.1, r.2]) (v_split (v_var rfl rS) (v_str (z := sSp)) (by decide +kernel) (by rw [lineOf_len hd]; omega) (by rw [hsp]; show 2 ≤ 4000; decide)) fun H v r2 => ?_)) (by show 2 ≤ 4000; omega) b_name (fun _ _ _ ⟨_, e, _⟩ => by subst e; rfl) ?_)) fun H v r2 => ?_) fun w H1 x r => q w H1 _ x r rfl
  · rw [hsp] at r2
    obtain ⟨p, xs, e, h1, h2, _⟩ := r2
    have h2 := allS h2
    subst h2
    exact ⟨p, _, e, h1, .cons rfl (.cons rfl .nil), by show 2 ≤ 4000; omega⟩
  · rintro a ha H1 H2 σ' x5 ⟨y, rfl, ry⟩ x6
    have hda : Dg a := by
      rcases List.mem_cons.mp ha with rfl | ha
      · exact hd.1
      · rw [List.mem_singleton.mp ha]
        exact hd.2
    exact v_call1 (v_var rfl (dDig.up x6 ry)) hda fun y h => h
  · obtain ⟨p, xs, e, h1, h2, _⟩ := r2
    have h2 := allI h2
    subst h2
    exact ⟨p, .int r.1, .int r.2, e, h1, rfl, rfl⟩

abbrev sp_parts_in  : Sp := sp1 dText (dP dI (dL (dP dI dI))) (fun N => DgN N ∧ N.2.length ≤ 7 ∧ 2 ≤ N.1 ∧ N.1 ≤ 6) fun N y => y = N
abbrev H_parts_in (P : Program) (w : World) (K : PySem.W.Frag) (mg : Str → Option Value) (base : Heap)  : Prop := FnAt P w K mg base "parts_in" 3 ["text"] sp_parts_in
theorem ok_parts_in {P : Program} {w : World} {K : PySem.W.Frag} {mg : Str → Option Value} {base : Heap}  (D : DefAt K mg "parts_in" s_parts_in) (B : Bts mg) (h_digit_in : H_digit_in P w K mg base) (h_net_lines : H_net_lines P w K mg base) (h_row_in : H_row_in P w K mg base) (GL : Gls mg)  : H_parts_in P w K mg base := by
  refine fnAt D sc_parts_in (fun _ _ _ _ _ _ us hl => match us, hl with | [_], _ => rfl) sp1_len fun fad cdv A outer s H vs Q E hr h => ⟨_, PSs.nox (pss_cons (ps_if (PW.pt (pw_or (pt_not (pt_val (pe_callB (kIsi K) (by rfl) B.isinstance (by decide +kernel) (pa_cons (pv 0) (pa_cons (pe_bltn (v := .ty "str") (by rfl) B.str (by decide +kernel) rfl) pa_nil))))) (pw_or1 (pt_not (pt_val (pe_m1 F.slot_str_endswith F.type_str_endswith mt_endswith (pv 0) pe_str)))))) (pss_one ps_never) pss_nil)
    (pss_cons (ps_set (i := 1) sc_parts_in.nd rfl (by first | exact Or.inl rfl | exact Or.inr rfl) (pe_split (pe_slice (kSl K) (pv 0) po_none (po_some (pe_un un_neg pe_int))) pe_str))
    (pss_cons (ps_par (i := 2) (j := 3) (by rfl) sc_parts_in.nd rfl rfl (by decide) rfl rfl (pa_cons (pcall h_digit_in hr (by decide) rfl (pa_cons (pe_slice (kSl K) (pe_ix (kIx K) (pv 1) pe_int (fun _ _ => rfl)) (po_some (pe_callB (kLen K) (by rfl) B.len PySem.boot_len (pa_cons (pe_gstr rfl GL.HEAD) pa_nil))) po_none) pa_nil)) (pa_cons (pe_lc (own := [("line", 4)]) rfl sc_parts_in.nd (kWalk K (pe_slice (kSl K) (pv 1) (po_some pe_int) po_none))
      (blkOk_by (own := [("line", 4)]) (N := N_parts_in) (sc := defScope s_parts_in) (by decide +kernel))
      (fun _ _ _ _ _ => (pg_name (i := 4) sc_parts_in.nd rfl (by first | exact Or.inl rfl | exact Or.inr rfl))) (fun _ _ _ _ _ => pts_nil) (fun _ _ _ _ _ => (pcall h_row_in hr (by decide) rfl (pa_cons (pv 4) pa_nil)))) pa_nil)) (by rfl))
    (pss_cons (ps_if (PW.pt (pw_or (pt_not (pt_chain op_le op_le pe_int (pv 2) (pe_gint rfl GL.MOST_PLACES))) (pw_or1 (pt_not (pt_val (pe_callB (kAll K) (by rfl) B.all (by decide +kernel) (pa_cons (pe_lc (own := [("row", 5)]) rfl sc_parts_in.nd (kWalk K (pv 3))
      (blkOk_by (own := [("row", 5)]) (N := N_parts_in) (sc := defScope s_parts_in) (by decide +kernel))
      (fun _ _ _ _ _ => (pg_name (i := 5) sc_parts_in.nd rfl (by first | exact Or.inl rfl | exact Or.inr rfl))) (fun _ _ _ _ _ => pts_nil) (fun _ _ _ _ _ => (pe_cmpR (kEq K hr.units) (pe_callB (kLen K) (by rfl) B.len PySem.boot_len (pa_cons (pv 5) pa_nil)) pe_int (nomark _)))) pa_nil))))))) (pss_one ps_never) pss_nil)
    (pss_cons (ps_if (pt_cmpR (kNe K hr.units) (pcall h_net_lines hr (by decide) rfl (pa_cons (pv 2) (pa_cons (pv 3) pa_nil))) (pv 1) (nomark _)) (pss_one ps_never) pss_nil)
    (pss_one (ps_ret (pe_tup (pa_cons (pv 2) (pa_cons (pv 3) pa_nil)))))))))), ?_⟩
  obtain ⟨v1, N, rfl, ra, ⟨hd, hl, n2, n6⟩, q⟩ := h
  have rS : dS.r H v1 (textOf N) := ra
  have hbl := body_len hd hl
  have htl : (textOf N).length ≤ 101 := by rw [len_tl, textOf, tl_append, tl_nl, List.length_append, ← len_tl]; show _ + 1 ≤ 101; omega
  have hll : (linesOf N).length ≤ 8 := by unfold linesOf; rw [List.length_cons, List.length_map]; omega
  refine k_no (EvT.is (b := !true || !true) (et_or (et_not (t_B (v_isi (v_var rfl rS) (.ty _) (fun H2 v _ r => ty_str r) (by rfl)))) fun _ => et_not (t_B (EvV.is (v_ends (v_var rfl rS) (v_str (z := sNl))) (text_ends N)))) rfl) fun H1 x1 => ?_
  refine k_setV (y := linesOf N) (EvV.is (v_split (EvV.is (v_cutTo (v_var rfl rS) (v_neg v_int) (by omega)) (text_cut N)) (v_str (z := sNl)) (by decide +kernel) (by omega) (by rw [body_split hd]; omega)) (body_split hd)) fun w2 H2 x2 r2 => ?_
  refine k_par (a := N.1) (y := N.2) (e := dI) (f := dL (dP dI dI)) (v_call1 (EvV.conv (f := dDig) (b := N.1) (v_cutFrom (v_ixL (a := headOf N.1) (v_var rfl r2) v_int (by decide) rfl) (v_lenS (v_str (z := sHead)) (by decide +kernel)) (by rw [headOf_len hd.many]; omega)) fun H v r => ?_) hd.many fun y h => h) (EvV.is (v_lcN (e := dLine) (l := N.2) id (im_P im_I im_I) (s_anyL (EvV.conv (f := dL dLine) (b := N.2) (v_tailL (v_var rfl r2)) fun H v r => ?_)) (by show _ ≤ 4000; omega) b_name (fun _ _ _ ⟨_, e, _⟩ => by subst e; rfl) ?_) (List.map_id _)) fun v w H3 x3 r3 r4 => ?_
  · have r : v = V.str (cutS (headOf N.1) (some (sHead.length : Int)) none) := r
    have e : ((sHead.length : Nat) : Int) = 7 := by decide +kernel
    rw [e, head_cut hd.many] at r
    exact r
  · obtain ⟨p, xs, e, h1, h2, h3⟩ := r
    have h2 := allS h2
    subst h2
    refine ⟨p, _, e, h1, ?_, by show _ ≤ 4000; omega⟩
    show Paired (dLine.r H) ((N.2.map lineOf).map V.str) N.2
    generalize N.2 = rs
    induction rs with
    | nil => exact .nil
    | cons a l ih => exact .cons rfl ih
  · rintro r hr H3 H4 σ' x3 ⟨y, rfl, ry⟩ x4
    exact v_call1 (v_var rfl (dLine.up x4 ry)) (hd.roads r hr) fun y h => h
  refine k_no (EvT.is (b := !true || !true) (et_or (et_not (t_B (EvV.is (v_chain (v_int (i := 2)) (v_var rfl r3) (v_int (i := 6))) ?_))) fun _ => et_not (t_B (EvV.is (v_all (v_lcN (fun _ : Road => true) im_B (s_anyL (v_var rfl r4)) (dL_len r4) b_name (fun _ _ _ ⟨_, e, _⟩ => by subst e; rfl) ?_)) ?_))) rfl) fun H4 x4 => ?_
  · rw [Bool.and_eq_true]
    exact ⟨decide_eq_true n2, decide_eq_true n6⟩
  · rintro r hr H5 H6 σ' x5 ⟨y, rfl, ry⟩ x6
    exact EvV.is (v_eq encI (v_lenP (v_var rfl ((dP dI dI).up x6 ry))) v_int) (by rfl)
  · rw [List.all_eq_true]
    intro x hx
    obtain ⟨_, _, rfl⟩ := List.mem_map.mp hx
    rfl
  have r24 := (dL dS).up (x3.trans x4) r2
  refine k_no (t_test (v_neLS (l := linesOf N) (fun p hp => ?_) (v_call2 (a := N.1) (b := N.2) (v_var rfl (dI.up x4 r3)) (v_var rfl ((dL (dP dI dI)).up x4 r4)) ⟨hd, by omega⟩ fun y h => h) (v_var rfl r24))) fun H5 x5 => ?_
  · exact lines_ok hd p hp
  refine k_retV (y := N) (v_pair (v_var rfl (dI.up (x4.trans x5) r3)) (v_var rfl ((dL (dP dI dI)).up (x4.trans x5) r4))) fun w H6 x6 r6 => q w H6 N (x1.trans (x2.trans (x3.trans (x4.trans (x5.trans x6))))) r6 rfl

abbrev sp_law_text  : Sp := sp2 dI (dL (dP dI dI)) dText (fun m rs => DgN (m, rs) ∧ rs.length ≤ 7) fun m rs y => y = (m, rs)
abbrev H_law_text (P : Program) (w : World) (K : PySem.W.Frag) (mg : Str → Option Value) (base : Heap)  : Prop := FnAt P w K mg base "_law_text" 1 ["_law_many", "_law_roads"] sp_law_text
theorem ok_law_text {P : Program} {w : World} {K : PySem.W.Frag} {mg : Str → Option Value} {base : Heap}  (D : DefAt K mg "_law_text" s_law_text) (B : Bts mg)  : H_law_text P w K mg base := by
  refine fnAt D sc_law_text (fun _ _ _ _ _ _ us hl => match us, hl with | [_, _], _ => rfl) sp2_len fun fad cdv A outer s H vs Q E hr h => ⟨_, PSs.nox (pss_cons (ps_set (i := 2) sc_law_text.nd rfl (by first | exact Or.inl rfl | exact Or.inr rfl) (pe_op (kPlus K) (pe_lst (pa_cons (pe_op (kPlus K) pe_str (pe_callTy call_str_int (by rfl) B.str (by decide +kernel) (pa_cons (pv 0) pa_nil))) pa_nil)) (pe_lc (own := [("_law_first", 3), ("_law_last", 4)]) rfl sc_law_text.nd (kWalk K (pv 1))
      (blkOk_by (own := [("_law_first", 3), ("_law_last", 4)]) (N := N_law_text) (sc := defScope s_law_text) (by decide +kernel))
      (fun _ _ _ _ _ => (kTup K (n := 2) (pgs_cons (pg_name (i := 3) sc_law_text.nd rfl (by first | exact Or.inl rfl | exact Or.inr rfl)) (pgs_cons (pg_name (i := 4) sc_law_text.nd rfl (by first | exact Or.inl rfl | exact Or.inr rfl)) pgs_nil)))) (fun _ _ _ _ _ => pts_nil) (fun _ _ _ _ _ => (pe_op (kPlus K) (pe_op (kPlus K) (pe_callTy call_str_int (by rfl) B.str (by decide +kernel) (pa_cons (pv 3) pa_nil)) pe_str) (pe_callTy call_str_int (by rfl) B.str (by decide +kernel) (pa_cons (pv 4) pa_nil)))))))
    (pss_one (ps_ret (pe_op (kPlus K) (pe_join pe_str (pv 2)) pe_str)))), ?_⟩
  obtain ⟨v1, v2, m, rs, rfl, ra, rb, ⟨hd, hl⟩, q⟩ := h
  have z : ∀ {i : Int}, Dg i → (dg i).length = 1 := fun h => dg_len h
  refine k_setV (y := [headOf m] ++ rs.map lineOf) (v_addL (v_lst1 (v_addS (v_str (z := sHead)) (v_strI (v_var rfl ra) hd.many) (by rw [dg_len hd.many]; decide))) (v_lcN lineOf im_S (s_anyL (v_var rfl rb)) (dL_len rb) b_pair (fun _ _ _ ⟨_, _, e, _⟩ => by subst e; rfl) ?_) (by rw [List.length_map]; show 1 + _ ≤ 4000; omega)) fun w H1 x1 r1 => ?_
  · rintro r hr H3 H4 σ' x5 ⟨y, z, rfl, ry, rz⟩ x6
    have hr := hd.roads r hr
    have e1 : sSp.length = 1 := by decide +kernel
    exact v_addS (v_addS (v_strI (v_var rfl (dI.up x6 ry)) hr.1) (v_str (z := sSp)) (by rw [dg_len hr.1, e1]; omega)) (v_strI (v_var rfl (dI.up x6 rz)) hr.2) (by rw [len_tl, tl_append, dg_tl hr.1, tl_sp, dg_len hr.2]; show 2 + 1 ≤ 100000; omega)
  · have hs : ((linesOf (m, rs)).map (·.length)).sum ≤ ((linesOf (m, rs)).map (·.length)).length * 8 := sum_le fun x hx => by
      obtain ⟨p, hp, rfl⟩ := List.mem_map.mp hx
      exact lines_len hd p hp
    have e2 : (linesOf (m, rs)).length ≤ 8 := by unfold linesOf; rw [List.length_cons, List.length_map]; show rs.length + 1 ≤ 8; omega
    rw [List.length_map] at hs
    have e3 : sNl.length = 1 := by decide +kernel
    have hb := body_len hd hl
    refine k_retV (y := textOf (m, rs)) (f := dS) (v_addS (v_join (v_str (z := sNl)) (v_var rfl (show (dL dS).r H1 w (linesOf (m, rs)) from r1)) (by rw [e3]; omega)) (v_str (z := sNl)) (by rw [e3]; show (bodyOf (m, rs)).length + 1 ≤ 100000; omega)) fun w2 H2 x2 r2 => q w2 H2 (m, rs) (x1.trans x2) r2 rfl
end Ow
-- OwF18
/-! A net made and read. -/
namespace Ow
open PySem PySem.Spec PyProof.Rows L2 Evl TL

/-! ### an attribute as a target -/
def gAttr (K : PySem.W.Frag) (to : TE) (f : Str) : TG := fun v σ H Q => to σ H fun x H1 => ∃ a C dx fs, x = .ref a ∧ H1 a = some (.ins C dx fs) ∧ Cls K C ∧ NoAttr K C f ∧ fs.length < 1000 ∧ Q σ (L2.upd H1 a (.ins C dx (putF f v fs)))
theorem pg_attr {X : Cx} {o : Expr} {to : TE} {f : Str} {pos : Pos} (K : PySem.W.Frag) (ho : PE X o to) (hK : X.K = K := by rfl) : PG X (.Attribute o f pos) (gAttr K to f) := by
  subst hK
  refine ⟨fun pins s σ H v u Q I r h => ?_⟩
  rw [arm_assign_Attribute]
  refine wpAny_bind (wpAny_holding (thn (ho.run pins s σ H _ I h) fun ov s1 ⟨x, H1, I1, r1, a, C, dx, fs, ex, ea, c, n, l, q1⟩ => ?_))
  subst ex
  obtain rfl : ov = Value.ref a := r1
  exact wpAny_bind (wpAny_standAt (wpAny_bind (wpAny_holding (setattr_ok I1 ea c n l r fun s3 I3 => wpAny_release ⟨σ, _, I3, q1⟩))))
/-! ### cls(a, *b) -/
def tMakeL (C : Addr) (sp : Sp) (E : XK) (tf : TE) (t : TA) : TE := fun σ H Q => tf σ H fun y H0 => y = V.ref C ∧ t σ H0 fun vs H1 => ∀ x dx, H1 x = Option.none → H1 dx = Option.none → dx ≠ x →
  sp (V.ref x :: vs) (L2.upd (L2.upd H1 dx (.own x)) x (.ins C dx [])) (fun v H2 => v = .non ∧ Q (.ref x) H2) E
theorem pe_makeL {X : Cx} {CX : CXT} {k : Nat} {f C : Addr} {sp : Sp} {E : XK} {fe e : Expr} {es : List Expr} {tf : TE} {t : TA} {pos : Pos} (hf : PE X fe tf) (M : Mk X.K C f) (F : FnR X.prog X.w X.K X.mg X.base CX k f sp) (hr : Room (k + 1) X.A) (hx : Passes CX X E) (ha : PA X (e :: es) t)
    (ht : eval (.Call fe (e :: es) [] pos) X.env = (do callWith pos (← eval fe X.env) [] (backTo pos (starEach (e :: es) X.env)) (backToKw pos (keywordEach [] X.env))) := by rfl)
    (he : starEach (e :: es) X.env = (false, eval e X.env) :: starEach es X.env := by rfl) (hst : (backTo pos (starEach es X.env)).any (·.1) = true := by rfl) : PE X (.Call fe (e :: es) [] pos) (tMakeL C sp E tf t) := by
  refine ⟨fun pins s σ H Q I h => ?_⟩
  refine Call_ (thn (hf.run pins s σ H _ I h) fun u s1 ⟨y, H1, I1, ry, ey, q⟩ => ?_) ht
  subst ey
  obtain rfl : u = Value.ref C := ry
  refine PySem.W.callWith_S2 (h₀ := X.base) I1.ok.mod.kin M.kp (thn (ha.run pos pins s1 σ H1 _ I1 q) fun us s2 ⟨vs, H2, I2, r, q2⟩ => ⟨I2.kIn, ?_⟩) he hst
  exact StX.run_makeR M F hr hx I2 r q2

/-! ### together_with of a tuple or a list -/
namespace U
theorem v_listU {α : Type} {e : Rl α} {K : PySem.W.Frag} {σ : L2.St} {H : Hp} {ta : TE} {l : List α} (ha : EvV (dU e) ta σ H l) : EvV (dL e) (tCB (rListOf K) (tCons ta tNil)) σ H l := v_cb1 ha fun H2 v _ r1 Q q => by
  rcases r1 with r1 | r1
  · obtain ⟨p, xs, rfl, hp, hx, hl⟩ := r1
    exact ⟨p, xs, rfl, .inl (sq_of hp), fun l hq => q _ _ (Ex.new hq) ⟨l, xs, rfl, upd_same, AllR.up (Ex.new hq) hx, hl⟩⟩
  · obtain ⟨p, xs, rfl, hp, hx, hl⟩ := r1
    exact ⟨p, xs, rfl, .inr (st_of hp), fun l hq => q _ _ (Ex.new hq) ⟨l, xs, rfl, upd_same, AllR.up (Ex.new hq) hx, hl⟩⟩
abbrev sp_together_with  : Sp := sp2 dI (dU (dP dI dI)) (dT dI) (fun _ rs => rs.length ≤ 20) fun x rs y => Asc y ∧ x ∈ y ∧ ∀ r, r ∈ rs → (r.1 ∈ y ↔ r.2 ∈ y)
abbrev H_together_with (P : Program) (w : World) (K : PySem.W.Frag) (mg : Str → Option Value) (base : Heap)  : Prop := FnAt P w K mg base "together_with" 2 ["place", "roads"] sp_together_with
theorem ok_together_with {P : Program} {w : World} {K : PySem.W.Frag} {mg : Str → Option Value} {base : Heap}  (D : DefAt K mg "together_with" s_together_with) (B : Bts mg) (h_spread : H_spread P w K mg base)  : H_together_with P w K mg base := by
  refine fnAt D sc_together_with (fun _ _ _ _ _ _ us hl => match us, hl with | [_, _], _ => rfl) sp2_len fun fad cdv A outer s H vs Q E hr h => ⟨_, PSs.nox (pss_one (ps_ret (pcall h_spread hr (by decide) rfl (pa_cons (pe_tup (pa_cons (pv 0) pa_nil)) (pa_cons (pe_op (kPlus K) (pe_callTy (kList K) (by rfl) B.list (by decide +kernel) (pa_cons (pv 1) pa_nil)) (pe_lc (own := [("first", 2), ("last", 3)]) rfl sc_together_with.nd (kWalk K (pv 1))
      (blkOk_by (own := [("first", 2), ("last", 3)]) (N := N_together_with) (sc := defScope s_together_with) (by decide +kernel))
      (fun _ _ _ _ _ => (kTup K (n := 2) (pgs_cons (pg_name (i := 2) sc_together_with.nd rfl (by first | exact Or.inl rfl | exact Or.inr rfl)) (pgs_cons (pg_name (i := 3) sc_together_with.nd rfl (by first | exact Or.inl rfl | exact Or.inr rfl)) pgs_nil)))) (fun _ _ _ _ _ => pts_nil) (fun _ _ _ _ _ => (pe_tup (pa_cons (pv 3) (pa_cons (pv 2) pa_nil)))))) pa_nil))))), ?_⟩
  obtain ⟨v1, v2, x, rs, rfl, ra, rb, hlt, q⟩ := h
  refine k_ret (p_call2V (a := [x]) (b := rs ++ rs.map fun r => (r.2, r.1)) (v_tup1 (v_var rfl ra)) (v_addL (v_listU (v_var rfl rb)) (v_lcN (fun r : Road => (r.2, r.1)) (im_P im_I im_I) (s_anyU (v_var rfl rb)) (by show _ ≤ 4000; omega) b_pair (fun _ _ _ ⟨_, _, e, _⟩ => by subst e; rfl) ?_) (by rw [List.length_map]; show _ ≤ 4000; omega)) (by rw [List.length_append, List.length_map]; show 1 + _ < 64; omega)) fun w H1 y x1 r1 hy => q w H1 y x1 r1 ?_
  · rintro r hr H3 H4 σ' x5 ⟨y, z, rfl, ry, rz⟩ x6
    exact v_pair (v_var rfl (dI.up x6 rz)) (v_var rfl (dI.up x6 ry))
  · obtain ⟨h1, h2, h3⟩ := hy
    refine ⟨h1, h2 x (List.mem_singleton.mpr rfl), fun r hr => ⟨h3 r (List.mem_append_left _ hr), h3 (r.2, r.1) (List.mem_append_right _ (List.mem_map.mpr ⟨r, hr, rfl⟩))⟩⟩
end U

/-! ### the class's makes -/
structure NetGd (N : NetD) : Prop where
  ok : NetOk N
  df : DifR N.2
theorem NetGd.road {N : NetD} (h : NetGd N) {r : Road} (hr : r ∈ N.2) : inRg N.1 r.1 = true ∧ inRg N.1 r.2 = true ∧ r.1 ≠ r.2 := by
  obtain ⟨h1, h2⟩ := h.ok.ro r hr
  have n2 := h.ok.n2
  refine ⟨?_, ?_, h.df r hr⟩
  · unfold inRg
    rw [Bool.and_eq_true]
    exact ⟨decide_eq_true h1.1, decide_eq_true (by have := h1.2; omega)⟩
  · unfold inRg
    rw [Bool.and_eq_true]
    exact ⟨decide_eq_true h2.1, decide_eq_true (by have := h2.2; omega)⟩
theorem NetGd.dg {N : NetD} (h : NetGd N) : DgN N := by
  have n2 := h.ok.n2
  have n6 := h.ok.n6
  refine ⟨⟨by omega, by omega⟩, fun r hr => ?_⟩
  obtain ⟨h1, h2⟩ := h.ok.ro r hr
  exact ⟨⟨h1.1, by have := h1.2; omega⟩, h2.1, by have := h2.2; omega⟩
theorem NetGd.all {N : NetD} (h : NetGd N) {y : List Int} (hy : 0 ∈ y) (hc : ∀ r, r ∈ N.2 → (r.1 ∈ y ↔ r.2 ∈ y)) (hn : Asc y) : N.1 ≤ (y.length : Int) := by
  have n2 := h.ok.n2
  have hall := h.ok.cn (fun x => x ∈ y) ⟨0, ⟨Int.le_refl _, by omega⟩, hy⟩ hc
  have hsub : ∀ x, x ∈ upto N.1.toNat → x ∈ y := fun x hx => by
    unfold upto at hx
    obtain ⟨a, ha, rfl⟩ := List.mem_map.mp hx
    have := List.mem_range.mp ha
    exact hall _ ⟨by show (0 : Int) ≤ (a : Int); omega, by show (a : Int) < (N.1.toNat : Int); omega⟩
  have hlen : (upto N.1.toNat).length ≤ y.length := nodup_len (asc_upto _).nodup hsub
  unfold upto at hlen
  rw [List.length_map, List.length_range] at hlen
  omega
structure NetM (K : PySem.W.Frag) (C : Addr) : Prop where
  count : NoAttr K C "count"
  row : NoAttr K C "row"
def spInit (C : Addr) : Sp := fun vs H Q _ => ∃ (a dx p : Addr) (N : NetD), vs = [.ref a, .int N.1, .ref p] ∧ H a = some (.ins C dx []) ∧ (dT (dP dI dI)).r H (.ref p) N.2 ∧ NetGd N ∧ ∀ H', ExB a H H' → (dNet C).r H' (.ref a) N → Q .non H'
abbrev spInitR (C : Addr) : Sp := fun vs H Q E => ∃ ws rest, vs = ws ++ rest ∧ ws.length = (["self", "many"] : List Str).length ∧ rest.length ≤ sizeLine ∧ ∀ p, H p = Option.none → spInit C (ws ++ [V.ref p]) (L2.upd H p (.tup rest)) Q E
set_option maxHeartbeats 8000000 in
theorem init_ok {P : Program} {w : World} {K : PySem.W.Frag} {mg : Str → Option Value} {base : Heap} {C f : Addr} {fd : FuncData} (F : FnP K "__init__" "Net.__init__" s_Net___init f fd) (B : Bts mg) (h_is_between : H_is_between P w K mg base) (h_is_road : H_is_road P w K mg base)
    (h_together_with : U.H_together_with P w K mg base) (GL : Gls mg) (NK : NetK P w K mg base C) (NM : NetM K C) : FnR P w K mg base CX0 4 f (spInitR C) := by
  obtain ⟨oc, od, dV, kV, doc, pm, an, cdv, ct, osl, rfl, lk, hcd, hdv, _⟩ := F.ex
  obtain rfl : dV = .none := by
    rcases hdv with ⟨_, e⟩ | ⟨e, _⟩
    · exact e
    · exact absurd rfl e
  refine StX.fn_star (ps := ["self", "many"]) (pv := "roads") lk hcd sc_Net___init StX.cxUp_none (StX.bind_star2 (B := fun us => bindArgs (PySem.W.fnOf "__init__" "Net.__init__" (defArgs s_Net___init) (defBody s_Net___init) (defScope s_Net___init) .none kV doc pm an cdv ct) ⟨us, []⟩) (fun a b => rfl) (fun a b r rs => rfl)) fun A outer s H vs Q E hr h => ⟨_, PSs.nox (pss_cons (ps_if (pt_not (pt_val (pcall h_is_between hr (by decide) rfl (pa_cons (pv 1) (pa_cons pe_int (pa_cons (pe_gint rfl GL.MOST_PLACES) pa_nil)))))) (pss_one ps_never) pss_nil)
    (pss_cons (ps_if (PW.pt (pw_or (pt_cmpR (kEq K hr.units) (pv 2) (pe_tup pa_nil) (nomark _)) (pw_or1 (pt_not (pt_val (pe_callB (kAll K) (by rfl) B.all (by decide +kernel) (pa_cons (pe_lc (own := [("road", 4)]) rfl sc_Net___init.nd (kWalk K (pv 2))
      (blkOk_by (own := [("road", 4)]) (N := N_Net___init) (sc := defScope s_Net___init) (by decide +kernel))
      (fun _ _ _ _ _ => (pg_name (i := 4) sc_Net___init.nd rfl (by first | exact Or.inl rfl | exact Or.inr rfl))) (fun _ _ _ _ _ => pts_nil) (fun _ _ _ _ _ => (pcall h_is_road hr (by decide) rfl (pa_cons (pv 4) (pa_cons (pv 1) pa_nil))))) pa_nil))))))) (pss_one ps_never) pss_nil)
    (pss_cons (ps_if (pt_cmpR op_gt (pe_callB (kLen K) (by rfl) B.len PySem.boot_len (pa_cons (pv 2) pa_nil)) (pe_gint rfl GL.MOST_ROADS) (nomark _)) (pss_one ps_never) pss_nil)
    (pss_cons (ps_set (i := 3) sc_Net___init.nd rfl (by first | exact Or.inl rfl | exact Or.inr rfl) (pcall h_together_with hr (by decide) rfl (pa_cons pe_int (pa_cons (pv 2) pa_nil))))
    (pss_cons (ps_if (pt_cmpR op_lt (pe_callB (kLen K) (by rfl) B.len PySem.boot_len (pa_cons (pv 3) pa_nil)) (pv 1) (nomark _)) (pss_one ps_never) pss_nil)
    (pss_one (ps_asg (pe_tup (pa_cons (pv 1) (pa_cons (pv 2) pa_nil))) (kTup K (n := 2) (pgs_cons (pg_attr K (pv 0)) (pgs_cons (pg_attr K (pv 0)) pgs_nil)))))))))), ?_⟩
  obtain ⟨a, dx, p, N, rfl, ha, rp, hN, q⟩ := h
  have n2 := hN.ok.n2
  have n6 := hN.ok.n6
  have r1 : 1 ≤ N.2.length := hN.ok.r1
  have r7 : N.2.length ≤ 7 := hN.ok.r7
  have rm : ∀ H, dI.r H (.int N.1) N.1 := fun _ => rfl
  refine k_no (EvT.is (b := !true) (et_not (t_B (EvV.is (v_call3 (a := N.1) (b := 2) (c := 6) (v_var (e := dI) rfl rfl) v_int v_int trivial fun y h => h) ?_))) rfl) fun H1 x1 => ?_
  · rw [Bool.and_eq_true]
    exact ⟨decide_eq_true n2, decide_eq_true n6⟩
  have rp1 := (dT (dP dI dI)).up x1 rp
  refine k_no (EvT.is (b := false || !true) (et_or (t_test (EvV.is (v_eq (encT (encP encI encI)) (v_var rfl rp1) v_tup0) (decide_eq_false fun e => by rw [e] at r1; exact absurd r1 (by decide)))) fun _ => et_not (t_B (EvV.is (v_all (v_lcN (fun _ : Road => true) im_B (s_anyT (v_var rfl rp1)) (dT_len rp1) b_name (fun _ _ _ ⟨_, e, _⟩ => by subst e; rfl) ?_)) ?_))) rfl) fun H2 x2 => ?_
  · rintro r hr H3 H4 σ' x3 ⟨y, rfl, ry⟩ x4
    exact v_call2 (b := N.1) (v_var rfl ((dP dI dI).up x4 ry)) (v_var (e := dI) rfl rfl) (hN.road hr) fun y h => h
  · rw [List.all_eq_true]
    intro x hx
    obtain ⟨_, _, rfl⟩ := List.mem_map.mp hx
    rfl
  have rp2 := (dT (dP dI dI)).up x2 rp1
  refine k_no (EvT.is (t_test (v_IB (v_lenT (v_var rfl rp2)) (v_int (i := 10)))) (decide_eq_false (by omega))) fun H3 x3 => ?_
  have rp3 := (dT (dP dI dI)).up x3 rp2
  refine k_set (p_call2V (a := 0) (b := N.2) (e := dI) (f := dU (dP dI dI)) v_int (v_var rfl (.inr rp3)) (by omega)) fun w H4 y x4 r4 ⟨hy1, hy2, hy3⟩ => ?_
  refine k_no (EvT.is (t_test (v_IB (v_lenT (v_var rfl r4)) (v_var (e := dI) (a := N.1) rfl rfl))) (decide_eq_false (by have := hN.all hy2 hy3 hy1; omega))) fun H5 x5 => ?_
  have y5 : Ex H H5 := x1.trans (x2.trans (x3.trans (x4.trans x5)))
  have ha5 := y5 _ _ ha
  refine ⟨.int N.1, rfl, .ref p, rfl, by show 2 ≤ sizeLine; decide, fun pt hpt => ⟨pt, [.int N.1, .ref p], rfl, st_of upd_same, rfl, .int N.1, [.ref p], rfl, .ref a, rfl, a, C, dx, [], rfl, Ex.new hpt _ _ ha5, NK.cls, NM.count, by show 0 < 1000; decide, .ref p, [], rfl, .ref a, rfl, a, C, dx, _, rfl, upd_same, NK.cls, NM.row, by show 1 < 1000; decide, rfl, ?_⟩⟩
  refine q _ ?_ ?_
  · exact ((ExB.of (y5.trans (Ex.new hpt))).trans ExB.upd).trans ExB.upd
  · have tx : Tx H5 (L2.upd (L2.upd (L2.upd H5 pt (.tup [.int N.1, .ref p])) a (.ins C dx (putF "count" (.int N.1) []))) a (.ins C dx (putF "row" (.ref p) (putF "count" (.int N.1) [])))) := fun b xs hb => by
      have nb : b ≠ a := fun e => by rw [e, ha5] at hb; cases hb
      rw [upd_ne nb, upd_ne nb]
      exact Ex.new hpt _ _ hb
    exact ⟨a, dx, _, .ref p, rfl, upd_same, rfl, rfl, im_T (im_P im_I im_I) tx ((dT (dP dI dI)).up y5 rp)⟩

/-! ### reading -/
structure NetI (P : Program) (w : World) (K : PySem.W.Frag) (mg : Str → Option Value) (base : Heap) (C fi : Addr) : Prop where
  mks : Mk K C fi
  init : FnR P w K mg base CX0 4 fi (spInitR C)
def spRead (C : Addr) : Sp := fun vs H Q _ => ∃ (v : V) (N : NetD), vs = [.ref C, v] ∧ dText.r H v N ∧ NetGd N ∧ ∀ w H', Ex H H' → (dNet C).r H' w N → Q w H'
theorem upd2_ex {H H' : Hp} {x dx : Addr} {o o' : HO} (hx : H x = none) (hd : H dx = none) (h : ExB x (L2.upd (L2.upd H dx o) x o') H') : Ex H H' := fun a u q => by
  have nx : a ≠ x := fun e => by rw [e, hx] at q; cases q
  have nd : a ≠ dx := fun e => by rw [e, hd] at q; cases q
  exact h a u nx (by rw [upd_ne nx, upd_ne nd]; exact q)
set_option maxHeartbeats 8000000 in
theorem read_ok {P : Program} {w : World} {K : PySem.W.Frag} {mg : Str → Option Value} {base : Heap} {C f fi : Addr} {fd : FuncData} (F : FnP K "read" "Net.read" s_Net_read f fd) (B : Bts mg) (h_is_road : H_is_road P w K mg base) (h_parts_in : H_parts_in P w K mg base)
    (h_together_with : U.H_together_with P w K mg base) (GL : Gls mg) (NR : NetI P w K mg base C fi) : FnR P w K mg base CX0 6 f (spRead C) := by
  have ok : FnOk P w K mg base CX0 6 f fd ["cls", "text"] (spRead C) := F.ok sc_Net_read (fun vs H Q E ⟨v, N, e, _⟩ => by rw [e]; rfl) fun cdv A outer s H vs Q E hr h => ⟨_, PSs.nox (pss_cons (ps_asg (pcall h_parts_in hr (by decide) rfl (pa_cons (pv 1) pa_nil)) (kTup K (n := 2) (pgs_cons (pg_name (i := 2) sc_Net_read.nd rfl (by first | exact Or.inl rfl | exact Or.inr rfl)) (pgs_cons (pg_name (i := 3) sc_Net_read.nd rfl (by first | exact Or.inl rfl | exact Or.inr rfl)) pgs_nil))))
    (pss_cons (ps_if (PW.pt (pw_or (pt_not (pt_chain op_le op_le pe_int (pe_callB (kLen K) (by rfl) B.len PySem.boot_len (pa_cons (pv 3) pa_nil)) (pe_gint rfl GL.MOST_ROADS))) (pw_or1 (pt_not (pt_val (pe_callB (kAll K) (by rfl) B.all (by decide +kernel) (pa_cons (pe_lc (own := [("road", 4)]) rfl sc_Net_read.nd (kWalk K (pv 3))
      (blkOk_by (own := [("road", 4)]) (N := N_Net_read) (sc := defScope s_Net_read) (by decide +kernel))
      (fun _ _ _ _ _ => (pg_name (i := 4) sc_Net_read.nd rfl (by first | exact Or.inl rfl | exact Or.inr rfl))) (fun _ _ _ _ _ => pts_nil) (fun _ _ _ _ _ => (pcall h_is_road hr (by decide) rfl (pa_cons (pv 4) (pa_cons (pv 2) pa_nil))))) pa_nil))))))) (pss_one ps_never) pss_nil)
    (pss_cons (ps_if (pt_cmpR op_lt (pe_callB (kLen K) (by rfl) B.len PySem.boot_len (pa_cons (pcall h_together_with hr (by decide) rfl (pa_cons pe_int (pa_cons (pv 3) pa_nil))) pa_nil)) (pv 2) (nomark _)) (pss_one ps_never) pss_nil)
    (pss_one (ps_ret (pe_makeL (pv 0) NR.mks NR.init (hr.mono (by decide)) pass0 (pa_cons (pv 2) (StX.pa_star (pv 3) pa_nil)))))))), by
    obtain ⟨v, N, rfl, rt, hN, q⟩ := h
    have n2 := hN.ok.n2
    have n6 := hN.ok.n6
    have r1 : 1 ≤ N.2.length := hN.ok.r1
    have r7 : N.2.length ≤ 7 := hN.ok.r7
    refine k_pairV (y := N) (e := dI) (f := dL (dP dI dI)) (v_call1 (v_var rfl rt) ⟨hN.dg, r7, n2, n6⟩ fun y h => h) fun v1 v2 H1 x1 ra rb => ?_
    obtain rfl : v1 = V.int N.1 := ra
    refine k_no (EvT.is (b := !true || !true) (et_or (et_not (t_B (EvV.is (v_chain (v_int (i := 1)) (v_lenL (v_var rfl rb)) (v_int (i := 10))) ?_))) fun _ => et_not (t_B (EvV.is (v_all (v_lcN (fun _ : Road => true) im_B (s_anyL (v_var rfl rb)) (dL_len rb) b_name (fun _ _ _ ⟨_, e, _⟩ => by subst e; rfl) ?_)) ?_))) rfl) fun H2 x2 => ?_
    · rw [Bool.and_eq_true]
      exact ⟨decide_eq_true (by omega), decide_eq_true (by omega)⟩
    · rintro r hr H3 H4 σ' x3 ⟨y, rfl, ry⟩ x4
      exact v_call2 (b := N.1) (v_var rfl ((dP dI dI).up x4 ry)) (v_var (e := dI) rfl rfl) (hN.road hr) fun y h => h
    · rw [List.all_eq_true]
      intro x hx
      obtain ⟨_, _, rfl⟩ := List.mem_map.mp hx
      rfl
    have rb2 := (dL (dP dI dI)).up x2 rb
    have hlim := dL_len rb
    have len0 : EvP dI (tCB (rLenU K) (tCons (tCall U.sp_together_with [] E0 (tCons (tC (.int 0)) (tCons (tVar 3) tNil))) tNil)) [some (.ref C), some v, some (.int N.1), some v2, none] H2 (fun k => N.1 ≤ k) := v_cb1P (p_call2V (a := 0) (b := N.2) (e := dI) (f := dU (dP dI dI)) v_int (v_var rfl (.inl rb2)) (by omega)) fun H3 v3 a x3 r3 ⟨hy1, hy2, hy3⟩ Q' q' => by
      obtain ⟨p, xs, rfl, hp, hx, _⟩ := r3
      exact ⟨_, a.length, rfl, .inr ⟨xs, st_of hp, (Paired.length hx).symm⟩, q' _ H3 _ (Ex.refl H3) rfl (hN.all hy2 hy3 hy1)⟩
    refine len0 H2 (Ex.refl H2) _ fun w3 H3 k x3 r3 hk => ⟨.int N.1, rfl, k, N.1, r3, rfl, _, rfl, ?_⟩
    rw [decide_eq_false (by omega)]
    refine ⟨.ref C, rfl, rfl, .int N.1, rfl, v2, rfl, ?_⟩
    obtain ⟨pr, xs, rfl, hp, hx, hl⟩ := (dL (dP dI dI)).up x3 rb2
    have lx := Paired.length hx
    refine ⟨pr, xs, rfl, .inr (sq_of hp), fun x dx hx0 hd0 hne => ?_⟩
    refine ⟨[.ref x, .int N.1], xs, by simp, rfl, Nat.le_trans (by omega) (show 100 ≤ sizeLine by decide), fun pt hpt => ⟨x, dx, pt, N, rfl, ?_, ?_, hN, fun H' xb rN => ⟨rfl, q _ H' ?_ rN⟩⟩⟩
    · exact Ex.new hpt _ _ upd_same
    · refine ⟨pt, xs, rfl, upd_same, AllR.up (fun a o qa => ?_) hx, hl⟩
      have nx : a ≠ x := fun e => by rw [e, hx0] at qa; cases qa
      have nd : a ≠ dx := fun e => by rw [e, hd0] at qa; cases qa
      exact Ex.new hpt _ _ (by rw [upd_ne nx, upd_ne nd]; exact qa)
    · exact x1.trans (x2.trans (x3.trans (upd2_ex (o := .own x) (o' := .ins C dx []) hx0 hd0 (fun a o n qa => xb a o n (Ex.new hpt _ _ qa)))))⟩
  exact FnR.imp (ok.raw (F.bindsN fun kV doc pm an cdv ct us hl => match us, hl with | [_, _], _ => rfl) .nil) fun vs H Q E h => by rw [List.append_nil]; exact h
structure NetRd (P : Program) (w : World) (K : PySem.W.Frag) (mg : Str → Option Value) (base : Heap) (C : Addr) (mc : Value) (pr gr : Addr) : Prop where
  rd : ClX.CRead K C mc
  met : ClX.CMet K C mc "read" pr gr
  read : FnR P w K mg base CX0 6 gr (spRead C)
abbrev sp_law_built (C : Addr) : Sp := sp2 dI (dL (dP dI dI)) (dNet C) (fun m rs => NetGd (m, rs)) fun m rs y => y = (m, rs)
abbrev H_law_built (P : Program) (w : World) (K : PySem.W.Frag) (mg : Str → Option Value) (base : Heap) (C : Addr) : Prop := FnAt P w K mg base "_law_built" 7 ["_law_many", "_law_roads"] (sp_law_built C)
theorem ok_law_built {P : Program} {w : World} {K : PySem.W.Frag} {mg : Str → Option Value} {base : Heap} {C : Addr} (D : DefAt K mg "_law_built" s_law_built) (B : Bts mg) (h_law_text : H_law_text P w K mg base) (NK : NetK P w K mg base C) {mc : Value} {pr gr : Addr} (NR : NetRd P w K mg base C mc pr gr) : H_law_built P w K mg base C := by
  refine fnAt D sc_law_built (fun _ _ _ _ _ _ us hl => match us, hl with | [_, _], _ => rfl) sp2_len fun fad cdv A outer s H vs Q E hr h => ⟨_, PSs.nox (pss_one (ps_ret (ClX.pe_cmeth (pe_glob (v := .ref C) rfl NK.mgn rfl) NR.rd NR.met NR.read (hr.mono (by decide)) pass0 (pa_cons (pcall h_law_text hr (by decide) rfl (pa_cons (pv 0) (pa_cons (pv 1) pa_nil))) pa_nil)))), ?_⟩
  obtain ⟨v1, v2, m, rs, rfl, ra, rb, hN, q⟩ := h
  refine ⟨rfl, ?_⟩
  refine (v_call2 (v_var rfl ra) (v_var rfl rb) ⟨hN.dg, hN.ok.r7⟩ fun y h => h) H (Ex.refl H) _ fun w1 H1 x1 r1 => ?_
  exact ⟨w1, (m, rs), rfl, r1, hN, fun w2 H2 x2 r2 => q w2 H2 _ (x1.trans x2) r2 rfl⟩
end Ow
-- OwF19
/-! The law's own lap. -/
namespace Ow
open PySem PySem.Spec PyProof.Rows PySem.W L2 Evl

theorem le_pl (K : PySem.W.Frag) : dataLe false (encT (K := K) (encI (K := K))).enc = fun p q : Pl => decide (p ≤ q) := by
  have e := dataLe_rows (fun b : Pl => b)
  rw [← e, dataLe_eq, dataLe_eq]
  funext a b
  show (!dataLt (.tuple (b.map .int)) (.tuple (a.map .int))) = (!dataLt (.list (b.map .int)) (.list (a.map .int)))
  rw [dataLt_tuple, dataLt_list]
theorem sort_perm (K : PySem.W.Frag) {l m : List Pl} (h : l.Perm m) : l.mergeSort (dataLe false (encT (K := K) (encI (K := K))).enc) = m.mergeSort (dataLe false (encT (K := K) (encI (K := K))).enc) := by
  rw [le_pl]
  have tr : ∀ (a b c : Pl), decide (a ≤ b) = true → decide (b ≤ c) = true → decide (a ≤ c) = true := fun a b c h1 h2 => decide_eq_true (List.le_trans (of_decide_eq_true h1) (of_decide_eq_true h2))
  have tt : ∀ (a b : Pl), (decide (a ≤ b) || decide (b ≤ a)) = true := fun a b => by
    rcases List.le_total a b with h | h
    · rw [decide_eq_true h]; rfl
    · rw [decide_eq_true h, Bool.or_true]
  exact List.Perm.eq_of_pairwise (le := fun a b => decide (a ≤ b) = true) (fun a b _ _ h1 h2 => List.le_antisymm (of_decide_eq_true h1) (of_decide_eq_true h2)) (List.pairwise_mergeSort tr tt l) (List.pairwise_mergeSort tr tt m) ((List.mergeSort_perm _ _).trans (h.trans (List.mergeSort_perm _ _).symm))
theorem dNet_exb {C : Addr} {p : Addr} {k : Nat} {H H' : Hp} {v : V} {N : NetD} (x : ExB p H H') (hp : PenAt p k H) (r : (dNet C).r H v N) : (dNet C).r H' v N := by
  obtain ⟨a, dx, fs, u, rfl, h0, h1, h2, h3⟩ := r
  have ne : a ≠ p := fun e => by
    obtain ⟨_, _, _, h, _⟩ := hp
    rw [e, h] at h0
    cases h0
  exact ⟨a, dx, fs, u, rfl, x a _ ne h0, h1, h2, im_T (im_P im_I im_I) (hp.tx x) h3⟩
theorem flatn_len {rs : List Road} {F : List Pl} (hl : F.length ≤ 16) (hr : rs.length ≤ 7) : (F.flatMap (into rs)).length ≤ 4000 := by
  have h : ∀ p, (into rs p).length ≤ 7 := fun p => by
    unfold into
    rw [List.length_map]
    refine Nat.le_trans (List.length_filter_le _ _) ?_
    rw [enumI_len]
    exact hr
  have h2 : ∀ F : List Pl, (F.flatMap (into rs)).length ≤ F.length * 7 := fun F => by
    induction F with
    | nil => exact Nat.le_refl _
    | cons a F ih =>
      rw [List.flatMap_cons, List.length_append, List.length_cons, Nat.succ_mul]
      have := h a
      omega
  have := h2 F
  omega
theorem useF_app (rs : List Road) (F G : List Pl) (e : Nat) : useF rs (F ++ G) e = useF rs F e + useF rs G e := List.countP_append ..
theorem usesL_le {rs : List Road} {F : List Pl} (h : ∀ e, useF rs F e ≤ 1) : ∀ x, x ∈ usesL rs F → x ≤ 1 := fun x hx => by
  rw [usesL_eq] at hx
  obtain ⟨e, _, rfl⟩ := List.mem_map.mp hx
  have := h e
  omega
theorem max_le1 {l : List Int} (h : ∀ x, x ∈ l → x ≤ 1) {M : Int} (hM : IsGreat l M) : M ≤ 1 := h M hM.1

abbrev sp_law_right (C : Addr) : Sp := fun vs H Q _ => ∃ (p : Addr) (m : Nat), vs = [.ref p] ∧ PenAt p m H ∧ m < 1000000 ∧ ∀ H', ExB p H H' → PenAt p (m + 200) H' → Q (.bl true) H'
abbrev H_law_right (P : Program) (w : World) (K : PySem.W.Frag) (mg : Str → Option Value) (base : Heap) (C : Addr) : Prop := FnAt P w K mg base "_law_right" 10 ["_law_pen_here"] (sp_law_right C)
theorem right_len {C : Addr} : ∀ vs H Q E, sp_law_right C vs H Q E → vs.length = (["_law_pen_here"] : List Str).length := fun vs H Q E ⟨p, m, e, _⟩ => by rw [e]; rfl
theorem ok_law_right {P : Program} {w : World} {K : PySem.W.Frag} {mg : Str → Option Value} {base : Heap} {C : Addr} (D : DefAt K mg "_law_right" s_law_right) (B : Bts mg) (h_law_net : H_law_net P w K mg base) (h_halves : H_halves P w K mg base C) (h_apart : H_apart P w K mg base C) (h_law_built : H_law_built P w K mg base C) (h_law_calm : H_law_calm P w K mg base) (h_uncrossed : H_uncrossed P w K mg base C) (h_uses : H_uses P w K mg base C) (NK : NetK P w K mg base C)  : H_law_right P w K mg base C := by
  refine fnAt D sc_law_right (fun _ _ _ _ _ _ us hl => match us, hl with | [_], _ => rfl) right_len fun fad cdv A outer s H vs Q E hr h => ⟨_, PSs.nox (pss_cons (ps_asg (pcall h_law_net hr (by decide) rfl (pa_cons (pv 0) (pa_cons pe_int pa_nil))) (kTup K (n := 2) (pgs_cons (pg_name (i := 1) sc_law_right.nd rfl (by first | exact Or.inl rfl | exact Or.inr rfl)) (pgs_cons (pg_name (i := 2) sc_law_right.nd rfl (by first | exact Or.inl rfl | exact Or.inr rfl)) pgs_nil))))
    (pss_cons (ps_par (i := 3) (j := 4) (by rfl) sc_law_right.nd rfl rfl (by decide) rfl rfl (pa_cons (pcall h_law_built hr (by decide) rfl (pa_cons (pv 1) (pa_cons (pv 2) pa_nil))) (pa_cons (pcall h_law_calm hr (by decide) rfl (pa_cons (pv 0) (pa_cons (pv 1) (pa_cons (pv 2) pa_nil)))) pa_nil)) (by rfl))
    (pss_cons (ps_asg (pcall h_halves hr (by decide) rfl (pa_cons (pv 3) (pa_cons (pv 4) pa_nil))) (kTup K (n := 2) (pgs_cons (pg_name (i := 5) sc_law_right.nd rfl (by first | exact Or.inl rfl | exact Or.inr rfl)) (pgs_cons (pg_name (i := 6) sc_law_right.nd rfl (by first | exact Or.inl rfl | exact Or.inr rfl)) pgs_nil))))
    (pss_cons (ps_if (PW.pt (pw_or (pt_cmpR (kNe K hr.units) (pe_callB (kSort K hr.units) (by rfl) B.sorted (by decide +kernel) (pa_cons (pe_op (kPlus K) (pv 5) (pv 6)) pa_nil)) (pe_callB (kSort K hr.units) (by rfl) B.sorted (by decide +kernel) (pa_cons (pv 4) pa_nil)) (nomark _)) (pw_or1 (pt_cmpR op_gt (pe_callB (kMax K hr.units) (by rfl) B.max (by decide +kernel) (pa_cons (pe_op (kPlus K) (pcall h_uses hr (by decide) rfl (pa_cons (pv 3) (pa_cons (pv 5) pa_nil))) (pcall h_uses hr (by decide) rfl (pa_cons (pv 3) (pa_cons (pv 6) pa_nil)))) pa_nil)) pe_int (nomark _))))) (pss_one (ps_ret pe_bl)) pss_nil)
    (pss_cons (ps_set (i := 7) sc_law_right.nd rfl (by first | exact Or.inl rfl | exact Or.inr rfl) (pcall h_apart hr (by decide) rfl (pa_cons (pv 3) pa_nil)))
    (pss_cons (ps_if (PW.pt (pw_or (pt_cmpR op_gt (pe_callB (kLen K) (by rfl) B.len PySem.boot_len (pa_cons (pv 5) pa_nil)) (pe_callB (kLen K) (by rfl) B.len PySem.boot_len (pa_cons (pv 7) pa_nil)) (nomark _)) (pw_or (pt_cmpR op_gt (pe_callB (kLen K) (by rfl) B.len PySem.boot_len (pa_cons (pv 6) pa_nil)) (pe_callB (kLen K) (by rfl) B.len PySem.boot_len (pa_cons (pv 7) pa_nil)) (nomark _)) (pw_or1 (pt_cmpR op_gt (pe_callB (kLen K) (by rfl) B.len PySem.boot_len (pa_cons (pv 4) pa_nil)) (pe_op op_mulW pe_int (pe_callB (kLen K) (by rfl) B.len PySem.boot_len (pa_cons (pv 7) pa_nil))) (nomark _)))))) (pss_one (ps_ret pe_bl)) pss_nil)
    (pss_cons (ps_if (PW.pt (pw_and (pt_cmpR (kEq K hr.units) (pv 5) (pe_tup pa_nil) (nomark _)) (pw_and1 (pt_cmpR (kNe K hr.units) (pv 4) (pe_tup pa_nil) (nomark _))))) (pss_one (ps_ret pe_bl)) pss_nil)
    (pss_cons (ps_asg (pcall h_halves hr (by decide) rfl (pa_cons (pv 3) (pa_cons (pcall h_uncrossed hr (by decide) rfl (pa_cons (pv 3) (pa_cons (pe_op (kPlus K) (pv 7) (pv 7)) pa_nil))) pa_nil))) (kTup K (n := 2) (pgs_cons (pg_name (i := 8) sc_law_right.nd rfl (by first | exact Or.inl rfl | exact Or.inr rfl)) (pgs_cons (pg_name (i := 9) sc_law_right.nd rfl (by first | exact Or.inl rfl | exact Or.inr rfl)) pgs_nil))))
    (pss_one (ps_ret (pe_and (pe_cmpR (kEq K hr.units) (pe_callB (kLen K) (by rfl) B.len PySem.boot_len (pa_cons (pv 8) pa_nil)) (pe_callB (kLen K) (by rfl) B.len PySem.boot_len (pa_cons (pv 7) pa_nil)) (nomark _)) (pe_one (pe_cmpR (kEq K hr.units) (pe_callB (kLen K) (by rfl) B.len PySem.boot_len (pa_cons (pv 9) pa_nil)) (pe_callB (kLen K) (by rfl) B.len PySem.boot_len (pa_cons (pv 7) pa_nil)) (nomark _)))))))))))))), ?_⟩
  obtain ⟨p, m, rfl, hp, hm, q⟩ := h
  refine ⟨.ref p, rfl, p, m, rfl, hp, by omega, fun w N H1 x1 hp1 rN hok hdf => ?_⟩
  obtain ⟨pt, v1, v2, rfl, hpt, r1, r2⟩ := rN
  refine ⟨pt, [v1, v2], rfl, st_of hpt, rfl, v1, [v2], rfl, v2, [], rfl, rfl, ?_⟩
  obtain rfl : v1 = V.int N.1 := r1
  have hN : NetGd N := ⟨hok, hdf⟩
  have n2 := hok.n2
  have n6 := hok.n6
  have l1 := hok.r1
  have l7 := hok.r7
  refine (v_call2 (a := N.1) (b := N.2) (c := N) (v_var (e := dI) rfl rfl) (v_var rfl r2) hN fun y h => h) H1 (Ex.refl H1) _ fun v3 H2 x2 r3 => ?_
  have hp2 := hp1.up x2
  have r22 := (dL (dP dI dI)).up x2 r2
  refine ⟨.ref p, rfl, .int N.1, rfl, v2, rfl, p, m + 100, v2, N, rfl, hp2, by omega, r22, hok, fun v4 F H3 x3 hp3 r4 hF => ?_⟩
  refine ⟨v3, v4, rfl, ?_⟩
  have r33 := dNet_exb x3 hp2 r3
  have y3 : ExB p H H3 := (x1.trans (ExB.of x2)).trans x3
  have hp3 : PenAt p (m + 200) H3 := hp3
  have fin : ∀ H', Ex H3 H' → Q (.bl true) H' := fun H' x => q H' (y3.trans (ExB.of x)) (hp3.up x)
  clear q
  have hl12 := hF.len
  refine k_pair (P := HalfPost N F) (e := dT (dT dI)) (f := dT (dT dI)) (p_call2V (a := N) (b := F) (v_var rfl r33) (v_var rfl r4) ⟨by omega, by omega, by omega, by omega, hok.ro, hF.cut, hF.calm, hF.two⟩) fun v5 v6 H4 y x4 r5 r6 hy => ?_
  have rN4 := (dNet C).up x4 r33
  have rF4 := (dT (dT dI)).up x4 r4
  have hpl := hy.perm.length_eq
  rw [List.length_append] at hpl
  have hcut : ∀ z, z ∈ y.1 ++ y.2 → IsCut N.1.toNat N.2 z := fun z hz => hF.cut z (hy.perm.mem_iff.mp hz)
  have hc1 : ∀ z, z ∈ y.1 → IsCut N.1.toNat N.2 z := fun z hz => hcut z (List.mem_append_left _ hz)
  have hc2 : ∀ z, z ∈ y.2 → IsCut N.1.toNat N.2 z := fun z hz => hcut z (List.mem_append_right _ hz)
  have hN1 : (((N.1.toNat : Nat) : Int), N.2) = N := by rw [Int.toNat_of_nonneg (by omega)]
  have cutB' : ∀ z, IsCut N.1.toNat N.2 z → cutB N z = true := fun z hz => by
    have h := (cutB_iff (n := N.1.toNat) (rs := N.2) (p := z)).mpr hz
    rw [hN1] at h
    exact h
  obtain ⟨M, hM⟩ := great_ex (l := usesL N.2 y.1 ++ usesL N.2 y.2) (by rw [List.length_append, usesL_len]; omega)
  have hM1 : M ≤ 1 := max_le1 (fun x hx => by
    rcases List.mem_append.mp hx with hx | hx
    · exact usesL_le hy.one x hx
    · exact usesL_le hy.two x hx) hM
  have hsame : ∀ G : List Pl, (∀ z, z ∈ G → IsCut N.1.toNat N.2 z) → Sortable (G.map (encT (K := K) (encI (K := K))).enc) := fun G hG => .inl fun d hd => by
    obtain ⟨z, hz, rfl⟩ := List.mem_map.mp hd
    have hne := (hG z hz).ne
    cases z with
    | nil => exact absurd hne (by decide)
    | cons a r => exact ⟨.int a, r.map PyData.int, rfl⟩
  have hal : ∀ a b : Pl, alike ((encT (K := K) (encI (K := K))).enc a) ((encT (K := K) (encI (K := K))).enc b) = true := fun a b => alike_pl K a b
  refine k_no (EvT.is (b := false || false) (et_or (t_test (EvV.is (v_ne (encL (encT encI)) (v_sortT (encT encI) (v_addT (v_var rfl r5) (v_var rfl r6) (by show _ ≤ 4000; omega)) hal (hsame _ hcut)) (v_sortT (encT encI) (v_var rfl rF4) hal (hsame _ hF.cut))) ?_)) fun _ => t_test (EvV.is (v_IB ((p_maxT (v_addT (v_call2 (a := N) (b := y.1) (v_var rfl rN4) (v_var rfl r5) ⟨flatn_len (by omega) l7, by omega, by omega, fun z hz => cutB' z (hc1 z hz)⟩ fun y h => h) (v_call2 (a := N) (b := y.2) (v_var rfl rN4) (v_var rfl r6) ⟨flatn_len (by omega) l7, by omega, by omega, fun z hz => cutB' z (hc2 z hz)⟩ fun y h => h) (by rw [usesL_len, usesL_len]; show _ ≤ 4000; omega)) (by rw [List.length_append, usesL_len]; omega)).v fun z hz => great_one hz hM) (v_int (i := 1))) ?_)) rfl) fun H5 x5 => ?_
  · refine decide_eq_false fun h => h ?_
    exact sort_perm K hy.perm
  · exact decide_eq_false (by omega)
  refine k_set (p_call1V (a := N) (v_var rfl ((dNet C).up x5 rN4)) hok) fun v7 H6 most x6 r7 hb => ?_
  have r56 := (dT (dT dI)).up (x5.trans x6) r5
  have r66 := (dT (dT dI)).up (x5.trans x6) r6
  have rF6 := (dT (dT dI)).up (x5.trans x6) rF4
  have rN6 := (dNet C).up (x5.trans x6) rN4
  have b1 := hb.best y.1 hc1 fun e _ => hy.one e
  have b2 := hb.best y.2 hc2 fun e _ => hy.two e
  have hml := hb.len
  refine k_no (EvT.is (b := false || (false || false)) (et_or (t_test (EvV.is (v_IB (v_lenT (v_var rfl r56)) (v_lenT (v_var rfl r7))) (decide_eq_false (by omega)))) fun _ => et_or (t_test (EvV.is (v_IB (v_lenT (v_var rfl r66)) (v_lenT (v_var rfl r7))) (decide_eq_false (by omega)))) fun _ => t_test (EvV.is (v_IB (v_lenT (v_var rfl rF6)) (v_IC v_int (v_lenT (v_var rfl r7)) (mulOk (by omega) (by omega) (by omega) (by omega)))) (decide_eq_false (by omega)))) rfl) fun H7 x7 => ?_
  have r57 := (dT (dT dI)).up x7 r56
  have rF7 := (dT (dT dI)).up x7 rF6
  have rN7 := (dNet C).up x7 rN6
  have r77 := (dT (dT dI)).up x7 r7
  refine k_no (EvT.is (et_and (t_test (v_eq (encT (encT encI)) (v_var rfl r57) v_tup0)) fun _ => t_test (v_ne (encT (encT encI)) (v_var rfl rF7) v_tup0)) ?_) fun H8 x8 => ?_
  · by_cases h : y.1 = []
    · have hF0 : F = [] := Classical.byContradiction fun hne => hy.first hne h
      rw [decide_eq_false (fun z : F ≠ [] => z hF0), Bool.and_false]
    · rw [decide_eq_false h, Bool.false_and]
  have rN8 := (dNet C).up x8 rN7
  have r78 := (dT (dT dI)).up x8 r77
  have hmm : ∀ z, z ∈ most ++ most → IsCut N.1.toNat N.2 z := fun z hz => by
    rcases List.mem_append.mp hz with hz | hz
    · exact hb.cuts z hz
    · exact hb.cuts z hz
  refine k_pair (P := fun y => ∃ G, UncPost N (most ++ most) G ∧ HalfPost N G y) (e := dT (dT dI)) (f := dT (dT dI)) (fun H9 x9 Q' q' => ?_) fun v8 v9 H9 z x9 r8 r9 ⟨G, hG, hz⟩ => ?_
  · refine ⟨v3, rfl, (p_call2V (a := N) (b := most ++ most) (v_var rfl ((dNet C).up x9 rN8)) (v_addT (v_var rfl ((dT (dT dI)).up x9 r78)) (v_var rfl ((dT (dT dI)).up x9 r78)) (by show _ ≤ 4000; omega)) ⟨by omega, by omega, by rw [List.length_append]; omega, hmm⟩) H9 (Ex.refl H9) _ fun w Ha G xa rG hG => ?_⟩
    obtain ⟨g1, g2, g3, g4⟩ := id hG
    rw [List.length_append] at g2
    refine ⟨v3, w, N, G, rfl, (dNet C).up (x9.trans xa) rN8, rG, ⟨by omega, by omega, by omega, by omega, hok.ro, g1, g4, fun e he => ?_⟩, fun w' Hb z' xb rz hz => q' w' Hb z' (xa.trans xb) rz ⟨G, hG, hz⟩⟩
    rw [g3, useF_app]
    have := hb.one e he
    omega
  obtain ⟨g1, g2, g3, g4⟩ := hG
  rw [List.length_append] at g2
  have zl := hz.perm.length_eq
  rw [List.length_append] at zl
  have gcut : ∀ c, c ∈ z.1 ++ z.2 → IsCut N.1.toNat N.2 c := fun c hc => g1 c (hz.perm.mem_iff.mp hc)
  have e1 := hb.best z.1 (fun c hc => gcut c (List.mem_append_left _ hc)) fun e _ => hz.one e
  have e2 := hb.best z.2 (fun c hc => gcut c (List.mem_append_right _ hc)) fun e _ => hz.two e
  have r79 := (dT (dT dI)).up x9 r78
  refine k_retV (y := true) (f := dB) (EvV.is (v_and (v_eq encI (v_lenT (v_var rfl r8)) (v_lenT (v_var rfl r79))) fun _ => v_eq encI (v_lenT (v_var rfl r9)) (v_lenT (v_var rfl r79))) ?_) fun w Ha xa ra => ?_
  · rw [decide_eq_true (show (z.1.length : Int) = (most.length : Int) by omega), decide_eq_true (show (z.2.length : Int) = (most.length : Int) by omega)]
    rfl
  · obtain rfl : w = V.bl true := ra
    exact fin Ha (x4.trans (x5.trans (x6.trans (x7.trans (x8.trans (x9.trans xa))))))

/-! ### the script, the law -/
/-- a list of ints as the frame or the heap holds it -/
def dSq (K : PySem.W.Frag) : Rl (List Int) := ⟨fun H v l => ∃ a, v = .ref a ∧ SqL K H a (l.map V.int), fun x ⟨a, e, h⟩ => ⟨a, e, ex_l x h⟩⟩
theorem v_lenSq {K : PySem.W.Frag} {σ : L2.St} {H : Hp} {ta : TE} {l : List Int} (ha : EvV (dSq K) ta σ H l) : EvV dI (tCB (rLenU K) (tCons ta tNil)) σ H (l.length : Int) := v_cb1 ha fun H2 v _ r1 Q q => by
  obtain ⟨p, rfl, hq⟩ := r1
  exact ⟨_, l.length, rfl, .inl ⟨_, hq, (List.length_map _).symm⟩, q _ H2 (Ex.refl H2) rfl⟩
theorem v_ixSq {K : PySem.W.Frag} {σ : L2.St} {H : Hp} {ta tb : TE} {l : List Int} {i a : Int} (ha : EvV (dSq K) ta σ H l) (hb : EvV dI tb σ H i) (h0 : 0 ≤ i) (h : l[i.toNat]? = some a) : EvV dI (tOp (rIx K) ta tb) σ H a := v_op ha hb fun H2 v w _ r1 r2 Q q => by
  obtain ⟨p, rfl, hq⟩ := r1
  have hx : (l.map V.int)[i.toNat]? = some (.int a) := by rw [List.getElem?_map, h]; rfl
  exact .inl ⟨p, _, i, .int a, rfl, r2, hq, at_of (by omega) hx, q _ H2 (Ex.refl H2) rfl⟩
abbrev sp_law_cell_at (K : PySem.W.Frag) : Sp := sp2 (dSq K) dI dI (fun l k => 0 ≤ k) fun _ _ _ => True
abbrev H_law_cell_at (P : Program) (w : World) (K : PySem.W.Frag) (mg : Str → Option Value) (base : Heap) : Prop := FnAt P w K mg base "_law_cell_at" 1 ["_law_script", "_law_k"] (sp_law_cell_at K)
theorem ok_law_cell_at {P : Program} {w : World} {K : PySem.W.Frag} {mg : Str → Option Value} {base : Heap}  (D : DefAt K mg "_law_cell_at" s_law_cell_at) (B : Bts mg)  : H_law_cell_at P w K mg base := by
  refine fnAt D sc_law_cell_at (fun _ _ _ _ _ _ us hl => match us, hl with | [_, _], _ => rfl) sp2_len fun fad cdv A outer s H vs Q E hr h => ⟨_, PSs.nox (pss_cons (ps_if (pt_cmpR op_lt (pv 1) (pe_callB (kLen K) (by rfl) B.len PySem.boot_len (pa_cons (pv 0) pa_nil)) (nomark _)) (pss_one (ps_ret (pe_ix (kIx K) (pv 0) (pv 1) (fun _ _ => rfl)))) pss_nil)
    (pss_one (ps_ret pe_int))), ?_⟩
  obtain ⟨v1, v2, l, k, rfl, ra, rb, hk, q⟩ := h
  refine k_if (b := decide (k < (l.length : Int))) (t_test (v_IB (v_var rfl rb) (v_lenSq (l := l) (v_var rfl ra)))) (fun hb H1 x1 => ?_) fun hb H1 x1 => ?_
  · have hlt := of_decide_eq_true hb
    have hg : l[k.toNat]? = some (l[k.toNat]'(by omega)) := List.getElem?_eq_getElem (by omega)
    exact k_retV (y := l[k.toNat]'(by omega)) (f := dI) (v_ixSq (v_var rfl ((dSq K).up x1 ra)) (v_var rfl (dI.up x1 rb)) hk hg) fun w H2 x2 r2 => q w H2 _ (x1.trans x2) r2 trivial
  · exact k_retV (D := { nx := fun _ H' => Q .non H', rt := Q }) (σ := [some v1, some v2]) v_int fun w H2 x2 r2 => q w H2 _ (x1.trans x2) r2 trivial

def spLaw (K : PySem.W.Frag) : Sp := fun vs H Q _ => ∃ (v : V) (l : List Int), vs = [v] ∧ (dSq K).r H v l ∧ l.length ≤ 1000 ∧ ∀ H', Ex H H' → Q (.bl true) H'
abbrev H_law (P : Program) (w : World) (K : PySem.W.Frag) (mg : Str → Option Value) (base : Heap) (C : Addr) : Prop := FnAt P w K mg base "law" 11 ["_law_script"] (spLaw K)
theorem law_len {K : PySem.W.Frag} : ∀ vs H Q E, spLaw K vs H Q E → vs.length = (["_law_script"] : List Str).length := fun vs H Q E ⟨v, l, e, _⟩ => by rw [e]; rfl
theorem law_ok {P : Program} {w : World} {K : PySem.W.Frag} {mg : Str → Option Value} {base : Heap} {C f : Addr} {fd : FuncData} (F : FnP K "law" "law" s_law f fd) (B : Bts mg) (h_law_pen : H_law_pen P w K mg base) (h_law_cell_at : H_law_cell_at P w K mg base) (h_law_right : H_law_right P w K mg base C) : FnOk P w K mg base CX0 11 f fd ["_law_script"] (spLaw K) :=
  F.ok sc_law law_len fun cdv A outer s H vs Q E hr h => ⟨_, PSs.nox (pss_cons (ps_for PassesOwn.never rfl (pi_range1 (by rfl) B.range (pa_cons (pe_callB (call_max2 rfl) (by rfl) B.max (by decide +kernel) (pa_cons pe_int (pa_cons (pe_callB (call_min2 rfl) (by rfl) B.min (by decide +kernel) (pa_cons (pe_callB (kLen K) (by rfl) B.len PySem.boot_len (pa_cons (pv 0) pa_nil)) (pa_cons pe_int pa_nil))) pa_nil))) pa_nil)) (pg_name (i := 1) sc_law.nd rfl (by first | exact Or.inl rfl | exact Or.inr rfl))
    (pss_cons (ps_set (i := 2) sc_law.nd rfl (by first | exact Or.inl rfl | exact Or.inr rfl) (pcall h_law_pen hr (by decide) rfl (pa_cons (pcall h_law_cell_at hr (by decide) rfl (pa_cons (pv 0) (pa_cons (pv 1) pa_nil))) pa_nil)))
    (pss_one (ps_for PassesOwn.never rfl (pi_range1 (by rfl) B.range (pa_cons pe_int pa_nil)) (pg_name (i := 3) sc_law.nd rfl (by first | exact Or.inl rfl | exact Or.inr rfl))
    (pss_one (ps_if (pt_not (pt_val (pcall h_law_right hr (by decide) rfl (pa_cons (pv 2) pa_nil)))) (pss_one (ps_ret pe_bl)) pss_nil))))))
    (pss_one (ps_ret pe_bl))), by
    obtain ⟨v, l, rfl, rl, hl, q⟩ := h
    refine kq_forR1 (n := if (if 3 < (l.length : Int) then 3 else (l.length : Int)) > 1 then (if 3 < (l.length : Int) then 3 else (l.length : Int)) else 1) (v_max2 v_int (v_min2 (v_lenSq (l := l) (v_var rfl rl)) v_int)) (by split <;> split <;> omega) (by split <;> split <;> omega) (fun i σ' H' => ∃ o1 o2 o3, σ' = [some v, o1, o2, o3] ∧ Ex H H')
      (fun H1 x1 => ⟨_, _, _, rfl, x1⟩) ?_ ?_
    · rintro i σ' H1 hi ⟨o1, o2, o3, rfl, x1⟩
      refine (p_call2V (a := l) (b := (i : Int)) (v_var rfl ((dSq K).up x1 rl)) (v_var (e := dI) rfl rfl) (by show (0 : Int) ≤ (i : Int); omega)) H1 (Ex.refl H1) _ fun w H2 n x2 rn _ => ?_
      refine ⟨n, by rw [show w = V.int n from rn]; rfl, fun p H3 hp x3 hpen => ?_⟩
      refine k_forR1 (n := 4) v_int (by decide) (by decide) (fun j σ' H' => ∃ o3, σ' = [some v, some (.int (i : Int)), some (.ref p), o3] ∧ ExB p H3 H' ∧ PenAt p (200 * j) H') (fun H4 x4 => ⟨_, rfl, ExB.of x4, hpen.up x4⟩) ?_ ?_
      · rintro j σ' H4 hj ⟨o3, rfl, x4, hp4⟩
        refine ⟨.ref p, rfl, p, 200 * j, rfl, hp4, by have : j < 4 := hj; omega, fun H5 x5 hp5 => ⟨true, rfl, ?_⟩⟩
        exact ⟨_, rfl, x4.trans x5, hp5.le (by omega)⟩
      · rintro σ' H4 ⟨o3, rfl, x4, hp4⟩
        exact ⟨_, _, _, rfl, (x1.trans x2).trans (ExB.back x3 hp x4)⟩
    · rintro σ' H1 ⟨o1, o2, o3, rfl, x1⟩
      refine k_retV v_bl fun w H2 x2 r2 => ?_
      obtain rfl : w = V.bl true := r2
      exact q H2 (x1.trans x2)⟩
end Ow
-- OwH
set_option maxHeartbeats 0
/-! The head's second half: the facts of the frame, the law's call. -/
namespace Ow
open PySem PySem.Spec PyProof.Rows L2 Evl
theorem propB_ok {K : PySem.W.Frag} {f : Str} (h : propB K f = true) : PropOf K (CN K) f (He.ma K (CN K) f) (He5.wf K (CN K) "property" f) := by
  obtain ⟨h1, h⟩ := He.ba h
  obtain ⟨h2, h⟩ := He.ba h
  obtain ⟨h3, h4⟩ := He.ba h
  refine ⟨He.eqO_ok h1, He.eqO_ok h2, of_decide_eq_true h3, ?_⟩
  unfold He5.wf
  split at h4
  · rename_i g r e
    exact ⟨r, by rw [e]⟩
  · cases h4
theorem isnB_ok {K : PySem.W.Frag} (h : isnB K = true) : IsN K (CN K) := by
  obtain ⟨h1, h⟩ := He.ba h
  obtain ⟨h2, h⟩ := He.ba h
  obtain ⟨h3, h⟩ := He.ba h
  obtain ⟨h4, h5⟩ := He.ba h
  exact ⟨He.eqO_ok h1, He.eqO_ok h2, of_decide_eq_true h3, of_decide_eq_true h4, of_decide_eq_true h5⟩
theorem cread {K : PySem.W.Frag} {C : Addr} (r : PySem.W.readsIn K C (.type "type") = true) : ClX.CRead K C (.type "type") := by
  refine ⟨r, ?_⟩
  have h := r
  unfold PySem.W.readsIn at h
  obtain ⟨h, _⟩ := He.ba h
  obtain ⟨h, _⟩ := He.ba h
  obtain ⟨h, h3⟩ := He.ba h
  obtain ⟨_, h2⟩ := He.ba h
  unfold PySem.W.specialIn
  rw [beq_iff_eq.mp h2, Option.bind_some]
  exact beq_iff_eq.mp h3
/-! ### the class's own defs -/
theorem prop_at {P : Program} {w : World} {K : PySem.W.Frag} {mg : Str → Option Value} {base : Heap} {x fld : Str} {q : Str} {st : Stmt} {N : List Str} {p1 p2 p3 : Pos} {fd : FuncData} (hp : propB K x = true) (F : FnP K x q st (He5.wf K (CN K) "property" x) fd) (S : FnScope N ["self"] (defScope st)) (hN : N[0]? = some ("self" : Str))
    (hb : defBody st = [.Return (some (.Attribute (.Name "self" p1) fld p2)) p3]) (hbi : ∀ (kV doc pm : Value) (an : Option Addr) (cdv ct : Value) (us : List Value), us.length = (["self"] : List Str).length → bindArgs (PySem.W.fnOf x q (defArgs st) (defBody st) (defScope st) .none kV doc pm an cdv ct) ⟨us, []⟩ = pure ((["self"] : List Str).zip us))
    (c : Cls K (CN K)) (n : NoAttr K (CN K) fld) : PropAt P w K mg base (CN K) x fld := by
  have bn := F.bindsN (ps := ["self"]) hbi
  obtain ⟨oc, od, dV, kV, doc, pm, an, cdv, ct, osl, rfl, lk, hcd, _, _⟩ := F.ex
  exact ⟨_, _, _, propB_ok hp, fn_getter lk hcd S hN hb c n, bn⟩
theorem len_at {P : Program} {w : World} {K : PySem.W.Frag} {mg : Str → Option Value} {base : Heap} {fd : FuncData} (B : Bts mg) (M : Meth K (CN K) "__len__" (He.ma K (CN K) "__len__")) (F : FnP K "__len__" "Net.__len__" s_Net___len (He.ma K (CN K) "__len__") fd) (c : Cls K (CN K)) (n : NoAttr K (CN K) "row") : LenAt P w K mg base (CN K) :=
  ⟨_, fd, M.at_, M.fn, F.ok sc_Net___len sp1_len fun cdv A outer s H vs Q E hr h => ⟨_, PSs.nox (pss_one (ps_ret (pe_callB (kLen K) (by rfl) B.len PySem.boot_len (pa_cons (pe_fld (pv 0) rfl) pa_nil)))), by
    obtain ⟨v, N, rfl, ⟨a, dx, fs, u, rfl, h0, h1, h2, h3⟩, _, q⟩ := h
    obtain ⟨p, xs, rfl, hp, hx, hl⟩ := h3
    exact ⟨.ref a, rfl, a, CN K, dx, fs, .ref p, rfl, h0, c, n, h2, .ref p, N.2.length, rfl, .inr ⟨xs, st_of hp, (Paired.length hx).symm⟩, q _ H _ (Ex.refl H) rfl rfl⟩⟩, F.bindsN fun _ _ _ _ _ _ us hl => match us, hl with | [_], _ => rfl⟩
theorem def_at {K : PySem.W.Frag} {h : Heap} {mg : Str → Option Value} {x : Str} {st : Stmt} (X : K.In h) (G : h.Ns mainGlobals mg) (i j : Nat) (c : SaysO fa fn K) (hd : fn[i]? = some (dTop x st)) (hf : fa[j]? = some (.glo x)) : DefAt K mg x st := by
  obtain ⟨fd, F⟩ := He5.SaysA.def_ c.1 i hd
  exact ⟨_, fd, F, He.glo_ok X G (He5.SaysA.fact c.1 j hf)⟩
set_option maxHeartbeats 0 in
theorem law_all {K : PySem.W.Frag} {h : Heap} {mg : Str → Option Value} {f : Addr} (X : K.In h) (G : h.Ns mainGlobals mg) (hf : mg ("law" : Str) = some (.ref f)) (c : SaysO fa fn K) :
    ∃ fd : FuncData, (∀ (s : Shared) (v : Value), BindsTo s fd ⟨[v], []⟩ [("_law_script", v)]) ∧ ∀ (P : Program) (w : World) (base : Heap), FnOk P w K mg base CX0 11 f fd ["_law_script"] (spLaw K) := by
  have B : Bts mg := ⟨He.free_ok X G (x := "all") (He5.SaysA.fact c.1 10 rfl), He.free_ok X G (x := "any") (He5.SaysA.fact c.1 11 rfl), He.free_ok X G (x := "bool") (He5.SaysA.fact c.1 12 rfl), He.free_ok X G (x := "enumerate") (He5.SaysA.fact c.1 13 rfl), He.free_ok X G (x := "int") (He5.SaysA.fact c.1 14 rfl), He.free_ok X G (x := "isinstance") (He5.SaysA.fact c.1 15 rfl), He.free_ok X G (x := "len") (He5.SaysA.fact c.1 16 rfl), He.free_ok X G (x := "list") (He5.SaysA.fact c.1 17 rfl), He.free_ok X G (x := "max") (He5.SaysA.fact c.1 18 rfl), He.free_ok X G (x := "min") (He5.SaysA.fact c.1 19 rfl), He.free_ok X G (x := "range") (He5.SaysA.fact c.1 20 rfl), He.free_ok X G (x := "set") (He5.SaysA.fact c.1 21 rfl), He.free_ok X G (x := "sorted") (He5.SaysA.fact c.1 22 rfl), He.free_ok X G (x := "str") (He5.SaysA.fact c.1 23 rfl), He.free_ok X G (x := "sum") (He5.SaysA.fact c.1 24 rfl), He.free_ok X G (x := "tuple") (He5.SaysA.fact c.1 25 rfl), He.free_ok X G (x := "zip") (He5.SaysA.fact c.1 26 rfl)⟩
  have GL : Gls mg := ⟨He.int_ok X G (x := "MOST_CUTS") (He5.SaysA.fact c.1 6 rfl), He.int_ok X G (x := "MOST_PLACES") (He5.SaysA.fact c.1 7 rfl), He.int_ok X G (x := "MOST_ROADS") (He5.SaysA.fact c.1 8 rfl), He.str_ok X G (x := "HEAD") (He5.SaysA.fact c.1 9 rfl)⟩
  have hx := c.2
  obtain ⟨e1, hx⟩ := He.ba hx
  obtain ⟨e2, hx⟩ := He.ba hx
  obtain ⟨e3, hx⟩ := He.ba hx
  obtain ⟨e4, hx⟩ := He.ba hx
  obtain ⟨e5, e6⟩ := He.ba hx
  have CL : Cls K (CN K) := He.cls_ok (x := "Net") (He5.SaysA.fact c.1 0 rfl)
  have NM : NetM K (CN K) := ⟨He.noat_ok (x := "Net") (f := "count") (He5.SaysA.fact c.1 1 rfl), He.noat_ok (x := "Net") (f := "row") (He5.SaysA.fact c.1 2 rfl)⟩
  have MK : Mk K (CN K) (He.ma K (CN K) "__init__") := He.mkr_ok (x := "Net") (He5.SaysA.fact c.1 3 rfl)
  have ML : Meth K (CN K) "__len__" (He.ma K (CN K) "__len__") := He.meth_ok (x := "Net") (m := "__len__") (He5.SaysA.fact c.1 4 rfl)
  have MG : mg "Net" = some (.ref (CN K)) := He.glo_ok X G (x := "Net") (He5.SaysA.fact c.1 5 rfl)
  obtain ⟨fdi, Fi⟩ := He5.SaysA.def_ c.1 0 (d := dMet "__init__" "Net.__init__" s_Net___init) rfl
  obtain ⟨fdl, Fl⟩ := He5.SaysA.def_ c.1 1 (d := dMet "__len__" "Net.__len__" s_Net___len) rfl
  obtain ⟨fdm, Fm⟩ := He5.SaysA.def_ c.1 2 (d := dWr "property" "many" "Net.many" s_Net_many) rfl
  obtain ⟨fdr, Fr⟩ := He5.SaysA.def_ c.1 3 (d := dWr "property" "roads" "Net.roads" s_Net_roads) rfl
  obtain ⟨fdd, Fd⟩ := He5.SaysA.def_ c.1 4 (d := dWr "classmethod" "read" "Net.read" s_Net_read) rfl
  obtain ⟨fdw, Fw⟩ := He5.SaysA.def_ c.1 58 (d := dTop "law" s_law) rfl
  have ew := hf.symm.trans (He.glo_ok X G (x := "law") (He5.SaysA.fact c.1 80 rfl))
  cases ew
  refine ⟨fdw, fun s v => FunD.bindsA (ps := ["_law_script"]) Fw (fun _ _ _ _ _ _ us hl => match us, hl with | [_], _ => rfl) s [v] rfl, fun P w base => ?_⟩
  have NK : NetK P w K mg base (CN K) := ⟨CL, MG, prop_at e4 Fm sc_Net_many rfl rfl (fun _ _ _ _ _ _ us hl => match us, hl with | [_], _ => rfl) CL NM.count, prop_at e5 Fr sc_Net_roads rfl rfl (fun _ _ _ _ _ _ us hl => match us, hl with | [_], _ => rfl) CL NM.row, len_at B ML Fl CL NM.row, isnB_ok e6⟩
  have h_is_integer : H_is_integer P w K mg base := ok_is_integer (def_at X G 5 27 c rfl rfl) B
  have h_in_order : H_in_order P w K mg base := ok_in_order (def_at X G 8 30 c rfl rfl) B
  have h_have_common : H_have_common P w K mg base := ok_have_common (def_at X G 10 32 c rfl rfl) B
  have h_spread : H_spread P w K mg base := ok_spread (def_at X G 11 33 c rfl rfl) B
  have h_net_lines : H_net_lines P w K mg base := ok_net_lines (def_at X G 12 34 c rfl rfl) B GL
  have h_digit_in : H_digit_in P w K mg base := ok_digit_in (def_at X G 13 35 c rfl rfl) B
  have h_need_net : H_need_net P w K mg base (CN K) := ok_need_net (def_at X G 18 40 c rfl rfl) B NK
  have h_do_cross : H_do_cross P w K mg base := ok_do_cross (def_at X G 23 45 c rfl rfl) B
  have h_is_needed : H_is_needed P w K mg base := ok_is_needed (def_at X G 33 55 c rfl rfl) B
  have h_price_of : H_price_of P w K mg base := ok_price_of (def_at X G 35 57 c rfl rfl) B
  have h_law_cell_at : H_law_cell_at P w K mg base := ok_law_cell_at (def_at X G 39 61 c rfl rfl) B
  have h_law_pen : H_law_pen P w K mg base := ok_law_pen (def_at X G 40 62 c rfl rfl) B
  have h_law_draw : H_law_draw P w K mg base := ok_law_draw (def_at X G 41 63 c rfl rfl) B
  have h_law_sets : H_law_sets P w K mg base := ok_law_sets (def_at X G 42 64 c rfl rfl) B
  have h_law_text : H_law_text P w K mg base := ok_law_text (def_at X G 45 67 c rfl rfl) B
  have h_law_is_closed : H_law_is_closed P w K mg base := ok_law_is_closed (def_at X G 47 69 c rfl rfl) B
  have h_law_into : H_law_into P w K mg base := ok_law_into (def_at X G 49 71 c rfl rfl) B
  have h_law_do_cross : H_law_do_cross P w K mg base := ok_law_do_cross (def_at X G 51 73 c rfl rfl) B
  have h_law_ordered : H_law_ordered P w K mg base := ok_law_ordered (def_at X G 53 75 c rfl rfl) B
  have h_is_between : H_is_between P w K mg base := ok_is_between (def_at X G 6 28 c rfl rfl) B h_is_integer
  have h_row_in : H_row_in P w K mg base := ok_row_in (def_at X G 14 36 c rfl rfl) B h_digit_in
  have h_together_with : U.H_together_with P w K mg base := U.ok_together_with (def_at X G 17 39 c rfl rfl) B h_spread
  have h_first_crossing : H_first_crossing P w K mg base := ok_first_crossing (def_at X G 27 49 c rfl rfl) B h_do_cross
  have h_sides_of : H_sides_of P w K mg base := ok_sides_of (def_at X G 29 51 c rfl rfl) B h_have_common
  have h_meets_all : H_meets_all P w K mg base := ok_meets_all (def_at X G 31 53 c rfl rfl) B h_have_common
  have h_least_price : H_least_price P w K mg base := ok_least_price (def_at X G 36 58 c rfl rfl) B h_price_of
  have h_law_road : H_law_road P w K mg base := ok_law_road (def_at X G 43 65 c rfl rfl) B h_law_draw
  have h_law_cuts : H_law_cuts P w K mg base := ok_law_cuts (def_at X G 48 70 c rfl rfl) B h_law_sets h_law_is_closed
  have h_law_uses : H_law_uses P w K mg base := ok_law_uses (def_at X G 50 72 c rfl rfl) B h_law_into
  have h_law_pick : H_law_pick P w K mg base := ok_law_pick (def_at X G 52 74 c rfl rfl) B h_law_draw
  have h_law_first_cross : H_law_first_cross P w K mg base := ok_law_first_cross (def_at X G 54 76 c rfl rfl) B h_law_do_cross
  have h_is_set : H_is_set P w K mg base := ok_is_set (def_at X G 7 29 c rfl rfl) B h_is_between
  have h_parts_in : H_parts_in P w K mg base := ok_parts_in (def_at X G 15 37 c rfl rfl) B h_digit_in h_net_lines h_row_in GL
  have h_is_road : H_is_road P w K mg base := ok_is_road (def_at X G 16 38 c rfl rfl) B h_is_between
  have h_is_closed : H_is_closed P w K mg base (CN K) := ok_is_closed (def_at X G 19 41 c rfl rfl) B NK
  have h_roads_into : H_roads_into P w K mg base (CN K) := ok_roads_into (def_at X G 21 43 c rfl rfl) B NK
  have h_law_net : H_law_net P w K mg base := ok_law_net (def_at X G 44 66 c rfl rfl) B h_law_draw h_law_road
  have h_law_uncrossed : H_law_uncrossed P w K mg base := ok_law_uncrossed (def_at X G 55 77 c rfl rfl) B h_law_ordered h_law_first_cross
  have h_sets_below : H_sets_below P w K mg base := ok_sets_below (def_at X G 9 31 c rfl rfl) B h_in_order
  have h_is_a_cut : H_is_a_cut P w K mg base (CN K) := ok_is_a_cut (def_at X G 20 42 c rfl rfl) B h_is_set h_is_closed NK
  have h_uses_of : H_uses_of P w K mg base (CN K) := ok_uses_of (def_at X G 25 47 c rfl rfl) B h_roads_into NK
  have h_law_calm : H_law_calm P w K mg base := ok_law_calm (def_at X G 56 78 c rfl rfl) B h_law_cuts h_law_uncrossed h_law_pick h_law_uses h_law_draw
  have h_cuts_of : H_cuts_of P w K mg base (CN K) := ok_cuts_of (def_at X G 22 44 c rfl rfl) B h_sets_below h_is_a_cut NK
  have h_need_family : H_need_family P w K mg base (CN K) := ok_need_family (def_at X G 24 46 c rfl rfl) B h_need_net h_is_a_cut GL NK
  have h_uses : H_uses P w K mg base (CN K) := ok_uses (def_at X G 26 48 c rfl rfl) B h_need_family h_uses_of NK
  have h_uncrossed : H_uncrossed P w K mg base (CN K) := ok_uncrossed (def_at X G 28 50 c rfl rfl) B h_need_family h_first_crossing h_in_order NK
  have h_rows_of : H_rows_of P w K mg base (CN K) := ok_rows_of (def_at X G 32 54 c rfl rfl) B h_roads_into h_cuts_of NK
  have h_halves : H_halves P w K mg base (CN K) := ok_halves (def_at X G 30 52 c rfl rfl) B h_need_family h_first_crossing h_sides_of h_roads_into h_uses_of NK
  have h_joins_of : H_joins_of P w K mg base (CN K) := ok_joins_of (def_at X G 34 56 c rfl rfl) B h_sets_below h_rows_of h_meets_all h_is_needed NK
  have NI : NetI P w K mg base (CN K) (He.ma K (CN K) "__init__") := ⟨MK, init_ok Fi B h_is_between h_is_road h_together_with GL NK NM⟩
  have NR : NetRd P w K mg base (CN K) (.type "type") (He.ma K (CN K) "read") (He5.wf K (CN K) "classmethod" "read") := ⟨cread e1, He5.cmet_of e2 e3, read_ok Fd B h_is_road h_parts_in h_together_with GL NI⟩
  have h_law_built : H_law_built P w K mg base (CN K) := ok_law_built (def_at X G 46 68 c rfl rfl) B h_law_text NK NR
  have h_packing : H_packing P w K mg base (CN K) := ok_packing (def_at X G 37 59 c rfl rfl) B h_cuts_of h_joins_of h_roads_into h_least_price NK
  have h_apart : H_apart P w K mg base (CN K) := ok_apart (def_at X G 38 60 c rfl rfl) B h_need_net h_packing NK
  have h_law_right : H_law_right P w K mg base (CN K) := ok_law_right (def_at X G 57 79 c rfl rfl) B h_law_net h_halves h_apart h_law_built h_law_calm h_uncrossed h_uses NK
  exact law_ok Fw B h_law_pen h_law_cell_at h_law_right
end Ow
open PySem PySem.W PySem.Calls PyProof.Rows
theorem PySem.Challenge.cw_onewaycuts_k44_whole_halves_and_apart_holds : PySem.Challenge.rw_onewaycuts_k44_whole_halves_and_apart.Holds := by
  w_on; o_law
  refine HandSHeadRun.head_any (r := OpenLaw.row PySem.Challenge.rw_onewaycuts_k44_whole_halves_and_apart) (q := view (OpenLaw.row PySem.Challenge.rw_onewaycuts_k44_whole_halves_and_apart).prog [78]) (H := Ow.hk) (ob := Ow.ob) (M := 6000) (loose := Ow.loose) (d := HandSHeadRun.topDef (OpenLaw.row PySem.Challenge.rw_onewaycuts_k44_whole_halves_and_apart).prog 78) (kwd := []) Ow.ob_eq
    (by kernel_rfl) (fun s => by kernel_rfl) Ow.run (by kernel_rfl) (by kernel_rfl) (by kernel_rfl) (by rfl) (by first | assumption | decide +kernel) (by decide +kernel) ⟨rfl, rfl, rfl, rfl, rfl, by decide +kernel⟩ ?hw ?hc
  case hw => w_witness2
  case hc =>
    refine L2.walk_ofE (l := PySem.Challenge.rw_onewaycuts_k44_whole_halves_and_apart) (n := 63) (k := 11) (x := "_law_script") (CX := L2.CX0) rfl (by decide) (by kernel_rfl) ⟨rfl, by decide, by decide⟩ ?F (fun _ _ _ _ z => z)
    intro w mg fa h Y G hmg0
    obtain ⟨K, KX, c⟩ := Y
    have hmg : mg ("law" : PySem.Str) = some (.ref fa) := by
      have e : (HandSHeadRun.topDef (OpenLaw.row PySem.Challenge.rw_onewaycuts_k44_whole_halves_and_apart).prog 78).name = ("law" : PySem.Str) := by kernel_rfl
      rw [← e]
      exact hmg0
    obtain ⟨fd, hb, hF⟩ := Ow.law_all KX G hmg c
    exact ⟨K, fd, Ow.spLaw K, KX, hb, fun H a ns hl _ hS => ⟨.ref a, ns, rfl, ⟨a, rfl, hS⟩, Nat.le_trans hl (by decide), fun _ _ => rfl⟩, fun base _ _ => hF _ w base⟩

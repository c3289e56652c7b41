import PyProof.Rows.All
import Wide.All
import OpenK.AllK
import Wide.FinOn
import KE.KStateDown
import KE.KOpsOwn
import KE.KMathGC
import Lean
import HandS.ForMost
import HandS.Defaults
import HandS.Property
import HandS.OwnEq
import HandS.IsInst
import HandS.Gcd
import HandS.Wide
import HandS.WideBits
import HandS.FStr
import HandS.Style
import HandS.Zip
import HandS.Flow
import HandS.EndBits
import HandS.Head0
import HandS.Head1
import HandS.Head2
import HandS.HeadEnd
import HandS.HeadHook1
import HandS.HeadHook2
import HandS.HeadHook4
import HandS.Head3
import PyProof.NeKinds
import PyProof.FitsInt
import OpenK.KOps
import PyProof.ReprHeads
import PyProof.ReprHeadsTuple
import PyProof.ReprHeadsEmpty
import PyProof.StrHeap
import HandS.MakeKwOnly
import HandS.Spec
import PySem.Challenge.RW_rootsround_k61_whole_taken_off_and_summe
set_option Elab.async false
set_option linter.all false
set_option maxRecDepth 100000
set_option exponentiation.threshold 10000
set_option maxHeartbeats 4000000
-- RB
namespace RR
open PySem PySem.Spec PyProof.Rows L2

/-! ### what may change between two heaps: nothing, but the pot at pa -/
/-- a pot of draws: two numbers within their bounds -/
def isPot : HO → Prop
  | .lst [.int x, .int y] => 0 ≤ x ∧ 0 ≤ y ∧ y ≤ 2147483549
  | _ => False
def Kp (pa : Option Addr) (H H' : Hp) : Prop := ∀ b o, H b = some o → H' b = some o ∨ (pa = some b ∧ isPot o ∧ ∃ o', H' b = some o' ∧ isPot o')
theorem Kp.refl {pa : Option Addr} (H : Hp) : Kp pa H H := fun _ _ h => .inl h
theorem Kp.trans {pa : Option Addr} {H H1 H2 : Hp} (a : Kp pa H H1) (b : Kp pa H1 H2) : Kp pa H H2 := fun c o h => by
  rcases a c o h with h1 | ⟨e, p, o1, h1, p1⟩
  · exact b c o h1
  · rcases b c o1 h1 with h2 | ⟨_, _, o2, h2, p2⟩
    · exact .inr ⟨e, p, o1, h2, p1⟩
    · exact .inr ⟨e, p, o2, h2, p2⟩
theorem Kp.ofN {pa : Option Addr} {H H' : Hp} (a : Kp none H H') : Kp pa H H' := fun c o h => by
  rcases a c o h with h1 | ⟨e, _⟩
  · exact .inl h1
  · cases e
theorem Kp.ext {H H' : Hp} (a : Kp none H H') : Ext H H' := fun c o h => by
  rcases a c o h with h1 | ⟨e, _⟩
  · exact h1
  · cases e
theorem Kp.ofE {pa : Option Addr} {H H' : Hp} (a : Ext H H') : Kp pa H H' := fun c o h => .inl (a c o h)
theorem Kp.new {pa : Option Addr} {H : Hp} {p : Addr} {o : HO} (h : H p = none) : Kp pa H (upd H p o) := Kp.ofE (Ext.upd h)
theorem Kp.free {pa : Option Addr} {H H' : Hp} {p : Addr} (a : Kp pa H H') (h : H' p = none) : H p = none := by
  cases e : H p with
  | none => rfl
  | some o =>
    rcases a p o e with h1 | ⟨_, _, o', h1, _⟩ <;> (rw [h] at h1; cases h1)
theorem Kp.get {pa : Option Addr} {H H' : Hp} {p : Addr} {o : HO} (a : Kp pa H H') (h : H p = some o) (n : ¬ isPot o) : H' p = some o := by
  rcases a p o h with h1 | ⟨_, q, _⟩
  · exact h1
  · exact absurd q n
theorem Kp.get0 {H H' : Hp} {p : Addr} {o : HO} (a : Kp none H H') (h : H p = some o) : H' p = some o := a.ext p o h
theorem Kp.ne {pa : Option Addr} {H H' : Hp} {p : Addr} {o : HO} (a : Kp pa H H') (h : H p = some o) (n : pa ≠ some p) : H' p = some o := by
  rcases a p o h with h1 | ⟨e, _⟩
  · exact h1
  · exact absurd e n
/-- an object that H does not know may change -/
theorem Kp.mut {pa : Option Addr} {H H' : Hp} {p : Addr} {o : HO} (a : Kp pa H H') (h : H p = none) : Kp pa H (upd H' p o) := fun c u e => by
  have n : c ≠ p := ne_of_none e h
  rw [upd_ne n]
  exact a c u e
theorem Kp.pot {a : Addr} {H H' : Hp} {o : HO} (k : Kp (some a) H H') (h : H a = some o) (p : isPot o) : ∃ o', H' a = some o' ∧ isPot o' := by
  rcases k a o h with h1 | ⟨_, _, o', h1, p1⟩
  · exact ⟨o, h1, p⟩
  · exact ⟨o', h1, p1⟩

/-! ### what is said of a value stays -/
class Stb (pa : Option Addr) (P : V → Hp → Prop) : Prop where
  st : ∀ v H1 H2, Kp pa H1 H2 → P v H1 → P v H2
def Is (v0 : V) : V → Hp → Prop := fun v _ => v = v0
instance {pa : Option Addr} {v0 : V} : Stb pa (Is v0) := ⟨fun _ _ _ _ h => h⟩
/-- an int of which S holds -/
def IsS (S : Int → Prop) : V → Hp → Prop := fun v _ => ∃ i, v = .int i ∧ S i
instance {pa : Option Addr} {S : Int → Prop} : Stb pa (IsS S) := ⟨fun _ _ _ _ h => h⟩
theorem is_ {v : V} {H : Hp} : Is v v H := rfl

/-! ### the judgements -/
def tE (pa : Option Addr) (σ0 : L2.St) (H0 : Hp) (P : V → Hp → Prop) : TE := fun σ H1 Q => σ = σ0 ∧ Kp pa H0 H1 ∧ ∀ v H2, Kp pa H1 H2 → P v H2 → Q v H2
def tT (pa : Option Addr) (σ0 : L2.St) (H0 : Hp) (P : Bool → Hp → Prop) : TT := fun σ H1 Q => σ = σ0 ∧ Kp pa H0 H1 ∧ ∀ v H2, Kp pa H1 H2 → P v H2 → Q v H2
def tA (pa : Option Addr) (σ0 : L2.St) (H0 : Hp) (P : List V → Hp → Prop) : TA := fun σ H1 Q => σ = σ0 ∧ Kp pa H0 H1 ∧ ∀ v H2, Kp pa H1 H2 → P v H2 → Q v H2
abbrev Ev (pa : Option Addr) (X : Cx) (e : Expr) (σ : L2.St) (H : Hp) (P : V → Hp → Prop) : Prop := PE X e (tE pa σ H P)
abbrev Et (pa : Option Addr) (X : Cx) (e : Expr) (σ : L2.St) (H : Hp) (P : Bool → Hp → Prop) : Prop := PT X e (tT pa σ H P)
abbrev EvA (pa : Option Addr) (X : Cx) (es : List Expr) (σ : L2.St) (H : Hp) (P : List V → Hp → Prop) : Prop := PA X es (tA pa σ H P)
/-- a test whose answer is known -/
abbrev Eb (pa : Option Addr) (X : Cx) (e : Expr) (σ : L2.St) (H : Hp) (b : Bool) : Prop := Et pa X e σ H (fun b' _ => b' = b)
def Ss (X : Cx) (sts : List Stmt) (σ : L2.St) (H : Hp) (D : Ends) : Prop := ∀ pins s, Inv X pins σ H s → wpAny (model X.prog X.w) X.A (execs sts X.env) (SP X pins D) X.xe s

section
variable {X : Cx} {pa : Option Addr} {σ : L2.St} {H H' : Hp} {e a b c : Expr} {es : List Expr} {pos : Pos} {P P' Pa Pb : V → Hp → Prop}
theorem Ev.of {te : TE} (h : PE X e te) (r : ∀ H1 Q, Kp pa H H1 → (∀ v H2, Kp pa H1 H2 → P v H2 → Q v H2) → te σ H1 Q) : Ev pa X e σ H P :=
  ⟨fun pins s σ' H1 Q I ⟨e, k, q⟩ => by subst e; exact h.run pins s σ' H1 Q I (r H1 Q k q)⟩
theorem Et.of {te : TT} {P : Bool → Hp → Prop} (h : PT X e te) (r : ∀ H1 Q, Kp pa H H1 → (∀ v H2, Kp pa H1 H2 → P v H2 → Q v H2) → te σ H1 Q) : Et pa X e σ H P :=
  ⟨fun pins s σ' H1 Q I ⟨e, k, q⟩ => by subst e; exact h.run pins s σ' H1 Q I (r H1 Q k q)⟩
theorem EvA.of {te : TA} {P : List V → Hp → Prop} (h : PA X es te) (r : ∀ H1 Q, Kp pa H H1 → (∀ v H2, Kp pa H1 H2 → P v H2 → Q v H2) → te σ H1 Q) : EvA pa X es σ H P :=
  ⟨fun pos pins s σ' H1 Q I ⟨e, k, q⟩ => by subst e; exact h.run pos pins s σ' H1 Q I (r H1 Q k q)⟩
theorem Ev.imp (h : Ev pa X e σ H P) (hp : ∀ v H', Kp pa H H' → P v H' → P' v H') : Ev pa X e σ H P' :=
  Ev.of h fun H1 Q k q => ⟨rfl, k, fun v H2 k2 p => q v H2 k2 (hp v H2 (k.trans k2) p)⟩
theorem Ev.at (h : Ev pa X e σ H P) (k : Kp pa H H') : Ev pa X e σ H' P := Ev.of h fun H1 Q k1 q => ⟨rfl, k.trans k1, q⟩
theorem Et.at {P : Bool → Hp → Prop} (h : Et pa X e σ H P) (k : Kp pa H H') : Et pa X e σ H' P := Et.of h fun H1 Q k1 q => ⟨rfl, k.trans k1, q⟩
theorem Et.imp {P P' : Bool → Hp → Prop} (h : Et pa X e σ H P) (hp : ∀ v H', Kp pa H H' → P v H' → P' v H') : Et pa X e σ H P' :=
  Et.of h fun H1 Q k q => ⟨rfl, k, fun v H2 k2 p => q v H2 k2 (hp v H2 (k.trans k2) p)⟩
/-- strict: what a part without draws does -/
theorem Ev.up (h : ∀ H1, Kp pa H H1 → Ev none X e σ H1 P) : Ev pa X e σ H P :=
  ⟨fun pins s σ' H1 Q I ⟨e, k, q⟩ => by subst e; exact (h H1 k).run pins s σ' H1 Q I ⟨rfl, Kp.refl _, fun v H2 k2 p => q v H2 k2.ofN p⟩⟩

/-! ### names, constants -/
theorem ev_v (i : Nat) {x : Str} {v : V} (hσ : σ[i]? = some (some v) := by rfl) (hN : X.N[i]? = some x := by rfl) (hv : Vis X.env.scope x := by first | exact Or.inl rfl | exact Or.inr (Or.inl rfl) | exact Or.inr (Or.inr rfl)) (hd : (x == ("__debug__" : Str)) = false := by decide)
    (hcd : (x == ("__classdict__" : Str)) = false := by decide) : Ev pa X (.Name x pos) σ H (Is v) :=
  Ev.of (pe_var hN hv hd hcd) fun H1 Q k q => ⟨v, hσ, q v H1 (Kp.refl _) rfl⟩
/-- a name whose value is told by what stays -/
theorem ev_n (i : Nat) {x : Str} {v : V} (h : P v H) [S : Stb pa P] (hσ : σ[i]? = some (some v) := by rfl) (hN : X.N[i]? = some x := by rfl) (hv : Vis X.env.scope x := by first | exact Or.inl rfl | exact Or.inr (Or.inl rfl) | exact Or.inr (Or.inr rfl)) (hd : (x == ("__debug__" : Str)) = false := by decide)
    (hcd : (x == ("__classdict__" : Str)) = false := by decide) : Ev pa X (.Name x pos) σ H P :=
  Ev.of (pe_var hN hv hd hcd) fun H1 Q k q => ⟨v, hσ, q v H1 (Kp.refl _) (S.st v H H1 k h)⟩
theorem ev_int {i : Int} {j} : Ev pa X (.Constant (.int i) j pos) σ H (Is (.int i)) := Ev.of pe_int fun H1 Q k q => q _ H1 (Kp.refl _) rfl
theorem ev_bl {i : Bool} {j} : Ev pa X (.Constant (.bool i) j pos) σ H (Is (.bl i)) := Ev.of pe_bl fun H1 Q k q => q _ H1 (Kp.refl _) rfl
theorem ev_non {j} : Ev pa X (.Constant .none j pos) σ H (Is .non) := Ev.of pe_non fun H1 Q k q => q _ H1 (Kp.refl _) rfl
theorem ev_str {x : Str} {j} : Ev pa X (.Constant (.str x) j pos) σ H (Is (.str x)) := Ev.of pe_str fun H1 Q k q => q _ H1 (Kp.refl _) rfl
theorem ev_glob {x : Str} {v : V} {u : Value} (hm : X.mg x = some u) (r : RelV v u) (hg : Gl X x := by rfl) (hd : (x == ("__debug__" : Str)) = false := by decide) : Ev pa X (.Name x pos) σ H (Is v) :=
  Ev.of (pe_glob hg hm r hd) fun H1 Q k q => q _ H1 (Kp.refl _) rfl
theorem ev_blt {x : Str} {v : V} {u : Value} (hm : X.mg x = none) (hv : bootBuiltins x = some u) (r : RelV v u) (hg : Gl X x := by rfl) (hn : x ≠ "__name__" := by decide) (hd : (x == ("__debug__" : Str)) = false := by decide) : Ev pa X (.Name x pos) σ H (Is v) :=
  Ev.of (pe_bltn hg hm hv r hn hd) fun H1 Q k q => q _ H1 (Kp.refl _) rfl

/-! ### operators -/
theorem ev_bin {op : Operator} {r : R2} (ho : OpR X (binaryOp op) r) (ha : Ev pa X a σ H Pa) (hb : Ev pa X b σ H Pb) [S : Stb pa Pa]
    (hr : ∀ x y H2 Q, Kp pa H H2 → Pa x H2 → Pb y H2 → (∀ z H3, Kp pa H2 H3 → P z H3 → Q z H3) → r x y H2 Q) : Ev pa X (.BinOp a op b pos) σ H P :=
  Ev.of (pe_op ho ha hb) fun H1 Q k q => ⟨rfl, k, fun x H2 k2 px => ⟨rfl, k.trans k2, fun y H3 k3 py => hr x y H3 Q ((k.trans k2).trans k3) (S.st x H2 H3 k3 px) py fun z H4 k4 pz => q z H4 ((k2.trans k3).trans k4) pz⟩⟩
theorem ev_cmp {op : CmpOp} {r : R2} (ho : OpR X (compareOp op) r) (hm : behindInMarks op b = false) (ha : Ev pa X a σ H Pa) (hb : Ev pa X b σ H Pb) [S : Stb pa Pa]
    (hr : ∀ x y H2 Q, Kp pa H H2 → Pa x H2 → Pb y H2 → (∀ z H3, Kp pa H2 H3 → P z H3 → Q z H3) → r x y H2 Q) : Ev pa X (.Compare a [op] [b] pos) σ H P :=
  Ev.of (pe_cmpR ho ha hb hm) fun H1 Q k q => ⟨rfl, k, fun x H2 k2 px => ⟨rfl, k.trans k2, fun y H3 k3 py => hr x y H3 Q ((k.trans k2).trans k3) (S.st x H2 H3 k3 px) py fun z H4 k4 pz => q z H4 ((k2.trans k3).trans k4) pz⟩⟩
theorem et_cmp {op : CmpOp} {r : R2} {P : Bool → Hp → Prop} (ho : OpR X (compareOp op) r) (hm : behindInMarks op b = false) (ha : Ev pa X a σ H Pa) (hb : Ev pa X b σ H Pb) [S : Stb pa Pa]
    (hr : ∀ x y H2 (Q : VK), Kp pa H H2 → Pa x H2 → Pb y H2 → (∀ z H3, Kp pa H2 H3 → P z H3 → Q (.bl z) H3) → r x y H2 Q) : Et pa X (.Compare a [op] [b] pos) σ H P :=
  Et.of (pt_cmpR ho ha hb hm) fun H1 Q k q => ⟨rfl, k, fun x H2 k2 px => ⟨rfl, k.trans k2, fun y H3 k3 py => hr x y H3 _ ((k.trans k2).trans k3) (S.st x H2 H3 k3 px) py fun z H4 k4 pz => ⟨z, rfl, q z H4 ((k2.trans k3).trans k4) pz⟩⟩⟩
variable {i j : Int}
theorem ev_add (ha : Ev pa X a σ H (Is (.int i))) (hb : Ev pa X b σ H (Is (.int j))) : Ev pa X (.BinOp a .Add b pos) σ H (Is (.int (i + j))) :=
  ev_bin op_add ha hb fun x y H2 Q _ px py q => ⟨i, j, px, py, q _ H2 (Kp.refl _) rfl⟩
theorem ev_sub (ha : Ev pa X a σ H (Is (.int i))) (hb : Ev pa X b σ H (Is (.int j))) : Ev pa X (.BinOp a .Sub b pos) σ H (Is (.int (i - j))) :=
  ev_bin op_sub ha hb fun x y H2 Q _ px py q => ⟨i, j, px, py, q _ H2 (Kp.refl _) rfl⟩
theorem ev_mul (hc : CMulW i j) (ha : Ev pa X a σ H (Is (.int i))) (hb : Ev pa X b σ H (Is (.int j))) : Ev pa X (.BinOp a .Mult b pos) σ H (Is (.int (i * j))) :=
  ev_bin op_mulW ha hb fun x y H2 Q _ px py q => ⟨i, j, px, py, hc, q _ H2 (Kp.refl _) rfl⟩
/-- // by a divisor of any sign -/
def CDivX (_ j : Int) : Prop := j ≠ 0 ∧ j.natAbs.log2 < 9000
theorem op_fdivX : OpR X (binaryOp .FloorDiv) (rI CDivX fun i j => .int (i.fdiv j)) := opI fun i j _ _ _ _ _ hc q => floordiv_int hc.1 q (.inl (PyProof.noPylong_of_log2 hc.2))
theorem ev_fdiv (hc : CDivX i j) (ha : Ev pa X a σ H (Is (.int i))) (hb : Ev pa X b σ H (Is (.int j))) : Ev pa X (.BinOp a .FloorDiv b pos) σ H (Is (.int (i.fdiv j))) :=
  ev_bin op_fdivX ha hb fun x y H2 Q _ px py q => ⟨i, j, px, py, hc, q _ H2 (Kp.refl _) rfl⟩
theorem ev_mod (hc : 0 < j) (ha : Ev pa X a σ H (Is (.int i))) (hb : Ev pa X b σ H (Is (.int j))) : Ev pa X (.BinOp a .Mod b pos) σ H (Is (.int (i % j))) :=
  ev_bin op_mod ha hb fun x y H2 Q _ px py q => ⟨i, j, px, py, hc, q _ H2 (Kp.refl _) rfl⟩
theorem ev_neg (ha : Ev pa X a σ H (Is (.int i))) : Ev pa X (.UnaryOp .USub a pos) σ H (Is (.int (-i))) :=
  Ev.of (pe_un un_neg ha) fun H1 Q k q => ⟨rfl, k, fun x H2 k2 px => ⟨i, px, q _ H2 k2 rfl⟩⟩
theorem ev_lt (ha : Ev pa X a σ H (Is (.int i))) (hb : Ev pa X b σ H (Is (.int j))) : Ev pa X (.Compare a [.Lt] [b] pos) σ H (Is (.bl (decide (i < j)))) :=
  ev_cmp op_lt (nomark _) ha hb fun x y H2 Q _ px py q => ⟨i, j, px, py, q _ H2 (Kp.refl _) rfl⟩
theorem ev_le (ha : Ev pa X a σ H (Is (.int i))) (hb : Ev pa X b σ H (Is (.int j))) : Ev pa X (.Compare a [.LtE] [b] pos) σ H (Is (.bl (decide (i ≤ j)))) :=
  ev_cmp op_le (nomark _) ha hb fun x y H2 Q _ px py q => ⟨i, j, px, py, q _ H2 (Kp.refl _) rfl⟩
theorem ev_gt (ha : Ev pa X a σ H (Is (.int i))) (hb : Ev pa X b σ H (Is (.int j))) : Ev pa X (.Compare a [.Gt] [b] pos) σ H (Is (.bl (decide (j < i)))) :=
  ev_cmp op_gt (nomark _) ha hb fun x y H2 Q _ px py q => ⟨i, j, px, py, q _ H2 (Kp.refl _) rfl⟩
theorem ev_eqI (ha : Ev pa X a σ H (Is (.int i))) (hb : Ev pa X b σ H (Is (.int j))) : Ev pa X (.Compare a [.Eq] [b] pos) σ H (Is (.bl (decide (i = j)))) :=
  ev_cmp op_eq (nomark _) ha hb fun x y H2 Q _ px py q => by
    obtain rfl : x = .int i := px
    obtain rfl : y = .int j := py
    refine ⟨rfl, ?_⟩
    rw [show decide (V.int i = V.int j) = decide (i = j) by simp]
    exact q _ H2 (Kp.refl _) rfl
theorem et_lt {k : Bool} (ha : Ev pa X a σ H (Is (.int i))) (hb : Ev pa X b σ H (Is (.int j))) (hk : decide (i < j) = k) : Eb pa X (.Compare a [.Lt] [b] pos) σ H k :=
  et_cmp op_lt (nomark _) ha hb fun x y H2 Q _ px py q => ⟨i, j, px, py, q _ H2 (Kp.refl _) hk⟩
theorem et_le {k : Bool} (ha : Ev pa X a σ H (Is (.int i))) (hb : Ev pa X b σ H (Is (.int j))) (hk : decide (i ≤ j) = k) : Eb pa X (.Compare a [.LtE] [b] pos) σ H k :=
  et_cmp op_le (nomark _) ha hb fun x y H2 Q _ px py q => ⟨i, j, px, py, q _ H2 (Kp.refl _) hk⟩
theorem et_gt {k : Bool} (ha : Ev pa X a σ H (Is (.int i))) (hb : Ev pa X b σ H (Is (.int j))) (hk : decide (j < i) = k) : Eb pa X (.Compare a [.Gt] [b] pos) σ H k :=
  et_cmp op_gt (nomark _) ha hb fun x y H2 Q _ px py q => ⟨i, j, px, py, q _ H2 (Kp.refl _) hk⟩
theorem et_ge {k : Bool} (ha : Ev pa X a σ H (Is (.int i))) (hb : Ev pa X b σ H (Is (.int j))) (hk : decide (j ≤ i) = k) : Eb pa X (.Compare a [.GtE] [b] pos) σ H k :=
  et_cmp op_ge (nomark _) ha hb fun x y H2 Q _ px py q => ⟨i, j, px, py, q _ H2 (Kp.refl _) hk⟩
theorem et_eqI {k : Bool} (ha : Ev pa X a σ H (Is (.int i))) (hb : Ev pa X b σ H (Is (.int j))) (hk : decide (i = j) = k) : Eb pa X (.Compare a [.Eq] [b] pos) σ H k :=
  et_cmp op_eq (nomark _) ha hb fun x y H2 Q _ px py q => by
    obtain rfl : x = .int i := px
    obtain rfl : y = .int j := py
    refine ⟨rfl, ?_⟩
    rw [show decide (V.int i = V.int j) = decide (i = j) by simp]
    exact q _ H2 (Kp.refl _) hk
theorem et_neI {k : Bool} (ha : Ev pa X a σ H (Is (.int i))) (hb : Ev pa X b σ H (Is (.int j))) (hk : (!decide (i = j)) = k) : Eb pa X (.Compare a [.NotEq] [b] pos) σ H k :=
  et_cmp op_ne (nomark _) ha hb fun x y H2 Q _ px py q => by
    obtain rfl : x = .int i := px
    obtain rfl : y = .int j := py
    refine ⟨rfl, ?_⟩
    rw [show decide (V.int i = V.int j) = decide (i = j) by simp]
    exact q _ H2 (Kp.refl _) hk

/-! ### truth, not, and, or, if -/
theorem et_val {k : Bool} (h : Ev pa X e σ H (Is (.bl k))) (he : ∀ whole, isTrue e X.env whole = (do let v ← whole; standAt e.pos; holding [v] (truthy v)) := by intro _; rfl) : Eb pa X e σ H k :=
  Et.of (pt_val h he) fun H1 Q k1 q => ⟨rfl, k1, fun x H2 k2 px => ⟨k, px, q _ H2 k2 rfl⟩⟩
theorem et_not {k : Bool} (h : Eb pa X e σ H k) : Eb pa X (.UnaryOp .Not e pos) σ H (!k) :=
  Et.of (pt_not h) fun H1 Q k1 q => ⟨rfl, k1, fun x H2 k2 px => by subst px; exact q _ H2 k2 rfl⟩
/-- a chain of tests: and, or -/
abbrev Ew (pa : Option Addr) (X : Cx) (e : Expr) (σ : L2.St) (H : Hp) (b : Bool) : Prop := PW X e (tT pa σ H (fun b' _ => b' = b))
theorem Ew.et {k : Bool} (h : Ew pa X e σ H k) : Eb pa X e σ H k := h.pt
theorem Ew.of {te : TT} {k : Bool} (h : PW X e te) (r : ∀ H1 Q, Kp pa H H1 → (∀ v H2, Kp pa H1 H2 → v = k → Q v H2) → te σ H1 Q) : Ew pa X e σ H k :=
  ⟨fun wh pins s σ' H1 Q I ⟨e, k, q⟩ => by subst e; exact h.run wh pins s σ' H1 Q I (r H1 Q k q)⟩
variable {k k' : Bool} {rest : List Expr}
theorem ew_and1 (ha : Eb pa X a σ H k) : Ew pa X (.BoolOp .And [a] pos) σ H k := pw_and1 ha
theorem ew_or1 (ha : Eb pa X a σ H k) : Ew pa X (.BoolOp .Or [a] pos) σ H k := pw_or1 ha
theorem ew_and (ha : Eb pa X a σ H true) (hb : Ew pa X (.BoolOp .And (b :: rest) pos) σ H k) : Ew pa X (.BoolOp .And (a :: b :: rest) pos) σ H k :=
  Ew.of (pw_and ha hb) fun H1 Q k1 q => ⟨rfl, k1, fun x H2 k2 px => by subst px; exact ⟨rfl, k1.trans k2, fun y H3 k3 py => q y H3 (k2.trans k3) py⟩⟩
/-- the second test where the first one is open -/
theorem ew_and2 (ha : Eb pa X a σ H k) (hb : k = true → Ew pa X (.BoolOp .And (b :: rest) pos) σ H k') : Ew pa X (.BoolOp .And (a :: b :: rest) pos) σ H (k && k') := by
  cases k with
  | true => exact ew_and ha (hb rfl)
  | false =>
    have hn : PW X (.BoolOp .And (b :: rest) pos) (fun _ _ _ => False) := ⟨fun _ _ _ _ _ _ _ h => h.elim⟩
    exact Ew.of (pw_and ha hn) fun H1 Q k1 q => ⟨rfl, k1, fun x H2 k2 px => by subst px; exact q _ H2 k2 rfl⟩
theorem ew_or2 (ha : Eb pa X a σ H k) (hb : k = false → Ew pa X (.BoolOp .Or (b :: rest) pos) σ H k') : Ew pa X (.BoolOp .Or (a :: b :: rest) pos) σ H (k || k') := by
  cases k with
  | false => exact Ew.of (pw_or ha (hb rfl)) fun H1 Q k1 q => ⟨rfl, k1, fun x H2 k2 px => by subst px; exact ⟨rfl, k1.trans k2, fun y H3 k3 py => q y H3 (k2.trans k3) py⟩⟩
  | true =>
    have hn : PW X (.BoolOp .Or (b :: rest) pos) (fun _ _ _ => False) := ⟨fun _ _ _ _ _ _ _ h => h.elim⟩
    exact Ew.of (pw_or ha hn) fun H1 Q k1 q => ⟨rfl, k1, fun x H2 k2 px => by subst px; exact q _ H2 k2 rfl⟩
/-- as values -/
theorem ev_one {op} (h : Ev pa X a σ H P) : Ev pa X (.BoolOp op [a] pos) σ H P := pe_one h
theorem ev_and2 (ha : Ev pa X a σ H (Is (.bl k))) (hb : k = true → Ev pa X (.BoolOp .And (b :: rest) pos) σ H (Is (.bl k'))) : Ev pa X (.BoolOp .And (a :: b :: rest) pos) σ H (Is (.bl (k && k'))) := by
  cases k with
  | true => exact Ev.of (pe_and ha (hb rfl)) fun H1 Q k1 q => ⟨rfl, k1, fun x H2 k2 px => ⟨true, px, iteT ⟨rfl, k1.trans k2, fun y H3 k3 py => q y H3 (k2.trans k3) py⟩⟩⟩
  | false =>
    have hn : PE X (.BoolOp .And (b :: rest) pos) (fun _ _ _ => False) := ⟨fun _ _ _ _ _ _ h => h.elim⟩
    exact Ev.of (pe_and ha hn) fun H1 Q k1 q => ⟨rfl, k1, fun x H2 k2 px => ⟨false, px, iteF (q _ H2 k2 rfl)⟩⟩
theorem ev_or2 (ha : Ev pa X a σ H (Is (.bl k))) (hb : k = false → Ev pa X (.BoolOp .Or (b :: rest) pos) σ H (Is (.bl k'))) : Ev pa X (.BoolOp .Or (a :: b :: rest) pos) σ H (Is (.bl (k || k'))) := by
  cases k with
  | false => exact Ev.of (pe_or ha (hb rfl)) fun H1 Q k1 q => ⟨rfl, k1, fun x H2 k2 px => ⟨false, px, iteF ⟨rfl, k1.trans k2, fun y H3 k3 py => q y H3 (k2.trans k3) py⟩⟩⟩
  | true =>
    have hn : PE X (.BoolOp .Or (b :: rest) pos) (fun _ _ _ => False) := ⟨fun _ _ _ _ _ _ h => h.elim⟩
    exact Ev.of (pe_or ha hn) fun H1 Q k1 q => ⟨rfl, k1, fun x H2 k2 px => ⟨true, px, iteT (q _ H2 k2 rfl)⟩⟩
theorem ev_not (ha : Ev pa X a σ H (Is (.bl k))) : Ev pa X (.UnaryOp .Not a pos) σ H (Is (.bl (!k))) :=
  Ev.of (pe_not ha) fun H1 Q k1 q => ⟨rfl, k1, fun x H2 k2 px => ⟨k, px, q _ H2 k2 rfl⟩⟩
theorem ev_if (hc : Eb pa X c σ H k) (ha : k = true → Ev pa X a σ H P) (hb : k = false → Ev pa X b σ H P) : Ev pa X (.IfExp c a b pos) σ H P := by
  have hn : ∀ e, PE X e (fun _ _ _ => False) := fun e => ⟨fun _ _ _ _ _ _ h => h.elim⟩
  cases k with
  | true => exact Ev.of (pe_ifExp hc (ha rfl) (hn b)) fun H1 Q k1 q => ⟨rfl, k1, fun x H2 k2 px => by subst px; exact iteT ⟨rfl, k1.trans k2, fun y H3 k3 py => q y H3 (k2.trans k3) py⟩⟩
  | false => exact Ev.of (pe_ifExp hc (hn a) (hb rfl)) fun H1 Q k1 q => ⟨rfl, k1, fun x H2 k2 px => by subst px; exact iteF ⟨rfl, k1.trans k2, fun y H3 k3 py => q y H3 (k2.trans k3) py⟩⟩
/-- a if c else b, where the test is open and may change the pot -/
theorem ev_ifP {Pc : Bool → Hp → Prop} (hc : Et pa X c σ H Pc) (ha : ∀ H', Kp pa H H' → Pc true H' → Ev pa X a σ H' P) (hb : ∀ H', Kp pa H H' → Pc false H' → Ev pa X b σ H' P) : Ev pa X (.IfExp c a b pos) σ H P := by
  have ra : PE X a (fun σ' H' Q => σ' = σ ∧ ∃ H2, Ev pa X a σ H2 P ∧ H2 = H' ∧ ∀ v H3, Kp pa H' H3 → P v H3 → Q v H3) := ⟨fun pins s σ' H' Q I ⟨e, H2, h, e2, q⟩ => by subst e; subst e2; exact h.run pins s _ _ Q I ⟨rfl, Kp.refl _, q⟩⟩
  have rb : PE X b (fun σ' H' Q => σ' = σ ∧ ∃ H2, Ev pa X b σ H2 P ∧ H2 = H' ∧ ∀ v H3, Kp pa H' H3 → P v H3 → Q v H3) := ⟨fun pins s σ' H' Q I ⟨e, H2, h, e2, q⟩ => by subst e; subst e2; exact h.run pins s _ _ Q I ⟨rfl, Kp.refl _, q⟩⟩
  refine Ev.of (pe_ifExp hc ra rb) fun H1 Q k1 q => ⟨rfl, k1, fun x H2 k2 px => ?_⟩
  cases x with
  | true => exact iteT ⟨rfl, H2, ha H2 (k1.trans k2) px, rfl, fun v H3 k3 p3 => q v H3 (k2.trans k3) p3⟩
  | false => exact iteF ⟨rfl, H2, hb H2 (k1.trans k2) px, rfl, fun v H3 k3 p3 => q v H3 (k2.trans k3) p3⟩

/-! ### arguments -/
theorem eva_nil : EvA pa X [] σ H (fun vs _ => vs = []) := EvA.of pa_nil fun H1 Q k q => q _ H1 (Kp.refl _) rfl
theorem eva_cons {PR : List V → Hp → Prop} (ha : Ev pa X e σ H P) (hr : EvA pa X es σ H PR) [S : Stb pa P] (hs : starEach (e :: es) X.env = (false, eval e X.env) :: starEach es X.env := by rfl) :
    EvA pa X (e :: es) σ H (fun vs H' => ∃ v r, vs = v :: r ∧ P v H' ∧ PR r H') :=
  EvA.of (pa_cons ha hr hs) fun H1 Q k q => ⟨rfl, k, fun v H2 k2 pv => ⟨rfl, k.trans k2, fun r H3 k3 pr => q _ H3 (k2.trans k3) ⟨v, r, rfl, S.st v H2 H3 k3 pv, pr⟩⟩⟩
theorem eva1 (ha : Ev pa X e σ H P) (hs : starEach [e] X.env = (false, eval e X.env) :: starEach [] X.env := by rfl) : EvA pa X [e] σ H (fun vs H' => ∃ v, vs = [v] ∧ P v H') :=
  EvA.of (pa_cons ha pa_nil hs) fun H1 Q k q => ⟨rfl, k, fun v H2 k2 pv => q _ H2 k2 ⟨v, rfl, pv⟩⟩
theorem eva2 (ha : Ev pa X a σ H Pa) (hb : Ev pa X b σ H Pb) [S : Stb pa Pa] (hs : starEach [a, b] X.env = (false, eval a X.env) :: starEach [b] X.env := by rfl) (hs2 : starEach [b] X.env = (false, eval b X.env) :: starEach [] X.env := by rfl) :
    EvA pa X [a, b] σ H (fun vs H' => ∃ x y, vs = [x, y] ∧ Pa x H' ∧ Pb y H') :=
  EvA.of (pa_cons ha (pa_cons hb pa_nil hs2) hs) fun H1 Q k q => ⟨rfl, k, fun v H2 k2 pv => ⟨rfl, k.trans k2, fun r H3 k3 pr => q _ H3 (k2.trans k3) ⟨v, r, rfl, S.st v H2 H3 k3 pv, pr⟩⟩⟩
end
end RR
-- RC
namespace RR
open PySem PySem.Spec PyProof.Rows L2

/-! ### statements -/
section
variable {X : Cx} {pa : Option Addr} {σ : L2.St} {H H' : Hp} {e a b c : Expr} {es : List Expr} {pos : Pos} {P P' Pa Pb : V → Hp → Prop} {sts rest A B : List Stmt} {st : Stmt} {D : Ends}
theorem Ss.pss : PSs X sts (fun D σ H => Ss X sts σ H D) := ⟨fun pins s σ H D I h => h pins s I⟩
theorem Ss.of {t : TS} (h : PSs X sts t) (q : t D σ H) : Ss X sts σ H D := fun pins s I => h.run pins s σ H D I q
theorem ss_nil (h : D.nx σ H) : Ss X [] σ H D := Ss.of pss_nil h
/-- one statement, and what follows -/
theorem ss_cons {t : TS} (h : PS X st t) (q : t { D with nx := fun σ' H' => Ss X rest σ' H' D } σ H) : Ss X (st :: rest) σ H D := Ss.of (pss_cons h Ss.pss) q
theorem ss_set (i : Nat) {x : Str} {pos' : Pos} (he : Ev pa X e σ H P) (k : ∀ v H', Kp pa H H' → P v H' → Ss X rest (σ.set i (some v)) H' D) (hN : X.N.Nodup := by assumption) (hi : X.N[i]? = some x := by rfl)
    (hx : Loc X.env.scope x := by first | exact Or.inl rfl | exact Or.inr rfl) (hs : swapsWith e (some (.Name x pos')) pos.line X.env = pure false := by rfl)
    (hf : X.fn x = true ∨ X.env.scope.names.lookup x = some .local := by first | exact .inl rfl | exact .inr rfl | assumption) : Ss X (.Assign [.Name x pos'] e pos :: rest) σ H D :=
  ss_cons (ps_set hN hi hx he hs hf) ⟨rfl, Kp.refl _, fun v H2 k2 p => k v H2 k2 p⟩
theorem ss_ret (he : Ev pa X e σ H P) (k : ∀ v H', Kp pa H H' → P v H' → D.rt v H') : Ss X (.Return (some e) pos :: rest) σ H D :=
  ss_cons (ps_ret he) ⟨rfl, Kp.refl _, fun v H2 k2 p => k v H2 k2 p⟩
theorem ss_expr (he : Ev pa X e σ H P) (k : ∀ v H', Kp pa H H' → P v H' → Ss X rest σ H' D) (hs : swapsWith e none pos.line X.env = pure false := by rfl) : Ss X (.Expr e pos :: rest) σ H D :=
  ss_cons (ps_expr he hs) ⟨rfl, Kp.refl _, fun v H2 k2 p => k v H2 k2 p⟩
theorem ss_if {Pc : Bool → Hp → Prop} (hc : Et pa X c σ H Pc) (h1 : ∀ H', Kp pa H H' → Pc true H' → Ss X A σ H' { D with nx := fun σ' H'' => Ss X rest σ' H'' D })
    (h2 : ∀ H', Kp pa H H' → Pc false H' → Ss X B σ H' { D with nx := fun σ' H'' => Ss X rest σ' H'' D }) : Ss X (.If c A B pos :: rest) σ H D :=
  ss_cons (ps_if hc Ss.pss Ss.pss) ⟨rfl, Kp.refl _, fun b H2 k2 p => by
    cases b with
    | true => exact iteT (h1 H2 k2 p)
    | false => exact iteF (h2 H2 k2 p)⟩
/-- a test that is known -/
theorem ss_ifb {k : Bool} (hc : Eb pa X c σ H k) (h1 : k = true → ∀ H', Kp pa H H' → Ss X A σ H' { D with nx := fun σ' H'' => Ss X rest σ' H'' D })
    (h2 : k = false → ∀ H', Kp pa H H' → Ss X B σ H' { D with nx := fun σ' H'' => Ss X rest σ' H'' D }) : Ss X (.If c A B pos :: rest) σ H D :=
  ss_if hc (fun H' k1 e => h1 e.symm H' k1) (fun H' k1 e => h2 e.symm H' k1)
/-- a guard that lets through: what it guards is not looked at -/
theorem ss_ifF (hc : Eb pa X c σ H false) (k : ∀ H', Kp pa H H' → Ss X rest σ H' D) : Ss X (.If c A [] pos :: rest) σ H D :=
  ss_cons (ps_if hc pss_never pss_nil) ⟨rfl, Kp.refl _, fun b H2 k2 p => by
    subst p
    exact iteF (k H2 k2)⟩
/-- a, b = e1, e2 -/
theorem ss_par (i j : Nat) {x y : Str} {px py pt : Pos} {kt k2 pt2} (ha : EvA pa X [a, b] σ H (fun vs H' => ∃ v w, vs = [v, w] ∧ Pa v H' ∧ Pb w H')) (k : ∀ v w H', Kp pa H H' → Pa v H' → Pb w H' → Ss X rest ((σ.set i (some v)).set j (some w)) H' D)
    (hN : X.N.Nodup := by assumption) (hi : X.N[i]? = some x := by rfl) (hj : X.N[j]? = some y := by rfl) (hij : i ≠ j := by decide)
    (hx : X.env.scope.names.lookup x = some .local := by rfl) (hy : X.env.scope.names.lookup y = some .local := by rfl) (hc : X.calm = true := by rfl)
    (hw : swappedStores [.Tuple [.Name x px, .Name y py] kt pt] (.Tuple [a, b] k2 pt2) X.env = pure (some [x, y]) := by rfl)
    (hs : swapsWithSole [.Tuple [.Name x px, .Name y py] kt pt] (.Tuple [a, b] k2 pt2) pos.line X.env = pure false := by rfl) :
    Ss X (.Assign [.Tuple [.Name x px, .Name y py] kt pt] (.Tuple [a, b] k2 pt2) pos :: rest) σ H D :=
  ss_cons (ps_par hc hN hi hj hij hx hy ha hw hs) ⟨rfl, Kp.refl _, fun vs H2 k2 ⟨v, w, e, p, q⟩ => ⟨v, w, e, k v w H2 k2 p q⟩⟩
theorem ss_par3 (i j l : Nat) {x y z : Str} {px py pz pt : Pos} {kt k2 pt2} {Pc : V → Hp → Prop} (ha : EvA pa X [a, b, c] σ H (fun vs H' => ∃ u v w, vs = [u, v, w] ∧ Pa u H' ∧ Pb v H' ∧ Pc w H'))
    (k : ∀ u v w H', Kp pa H H' → Pa u H' → Pb v H' → Pc w H' → Ss X rest (((σ.set i (some u)).set j (some v)).set l (some w)) H' D)
    (hN : X.N.Nodup := by assumption) (hi : X.N[i]? = some x := by rfl) (hj : X.N[j]? = some y := by rfl) (hl : X.N[l]? = some z := by rfl) (hij : i ≠ j := by decide) (hil : i ≠ l := by decide) (hjl : j ≠ l := by decide)
    (hx : X.env.scope.names.lookup x = some .local := by rfl) (hy : X.env.scope.names.lookup y = some .local := by rfl) (hz : X.env.scope.names.lookup z = some .local := by rfl) (hc : X.calm = true := by rfl)
    (hw : swappedStores [.Tuple [.Name x px, .Name y py, .Name z pz] kt pt] (.Tuple [a, b, c] k2 pt2) X.env = pure (some [x, y, z]) := by rfl)
    (hs : swapsWithSole [.Tuple [.Name x px, .Name y py, .Name z pz] kt pt] (.Tuple [a, b, c] k2 pt2) pos.line X.env = pure false := by rfl) :
    Ss X (.Assign [.Tuple [.Name x px, .Name y py, .Name z pz] kt pt] (.Tuple [a, b, c] k2 pt2) pos :: rest) σ H D :=
  ss_cons (ps_par3 hc hN hi hj hl hij hil hjl hx hy hz ha hw hs) ⟨rfl, Kp.refl _, fun vs H2 k2 ⟨u, v, w, e, p, q, r⟩ => ⟨u, v, w, e, k u v w H2 k2 p q r⟩⟩
/-- what a new tuple of two holds -/
def Tup2 (Pa Pb : V → Hp → Prop) : V → Hp → Prop := fun v H => ∃ t x y, v = .ref t ∧ H t = some (.tup [x, y]) ∧ Pa x H ∧ Pb y H
instance [A : Stb pa Pa] [B : Stb pa Pb] : Stb pa (Tup2 Pa Pb) := ⟨fun v H1 H2 k h => by
  obtain ⟨t, x, y, e, h, p, q⟩ := h
  exact ⟨t, x, y, e, k.get h (fun z => z), A.st _ _ _ k p, B.st _ _ _ k q⟩⟩
/-- a, b = e, the value a tuple of two -/
theorem ss_tup (i j : Nat) {x y : Str} {px py pt : Pos} {kt} (he : Ev pa X e σ H (Tup2 Pa Pb)) (k : ∀ v w H', Kp pa H H' → Pa v H' → Pb w H' → Ss X rest ((σ.set i (some v)).set j (some w)) H' D)
    (hN : X.N.Nodup := by assumption) (hi : X.N[i]? = some x := by rfl) (hj : X.N[j]? = some y := by rfl)
    (hx : Loc X.env.scope x := by first | exact Or.inl rfl | exact Or.inr rfl) (hy : Loc X.env.scope y := by first | exact Or.inl rfl | exact Or.inr rfl) (hc : X.calm = true := by rfl)
    (hfx : X.fn x = true ∨ X.env.scope.names.lookup x = some .local := by first | exact .inl rfl | exact .inr rfl | assumption) (hfy : X.fn y = true ∨ X.env.scope.names.lookup y = some .local := by first | exact .inl rfl | exact .inr rfl | assumption)
    (hs : swapsWithSole [.Tuple [.Name x px, .Name y py] kt pt] e pos.line X.env = pure false := by rfl) (hw : swappedStores [.Tuple [.Name x px, .Name y py] kt pt] e X.env = pure none := by rfl)
    (h1 : (assignEach [.Tuple [.Name x px, .Name y py] kt pt] X.env).map (·.2) = [assign (.Tuple [.Name x px, .Name y py] kt pt) X.env] := by rfl)
    (hn : (assignEach [.Name x px, .Name y py] X.env).length = 2 := by rfl) (hst : (assignEach [.Name x px, .Name y py] X.env).findIdx? (·.1) = none := by rfl)
    (hs1 : (assignEach [.Name x px, .Name y py] X.env).map (·.2) = assign (.Name x px) X.env :: (assignEach [.Name y py] X.env).map (·.2) := by rfl)
    (hs2 : (assignEach [.Name y py] X.env).map (·.2) = assign (.Name y py) X.env :: (assignEach [] X.env).map (·.2) := by rfl) :
    Ss X (.Assign [.Tuple [.Name x px, .Name y py] kt pt] e pos :: rest) σ H D :=
  ss_cons (ps_asg he (pg_tup hc (pgs_cons (pg_name hN hi hx hfx) (pgs_cons (pg_name hN hj hy hfy) pgs_nil hs2) hs1) hn hst) hs hw h1)
    ⟨rfl, Kp.refl _, fun v H2 k2 ⟨t, v1, v2, e, ht, p, q⟩ => ⟨t, [v1, v2], e, SqT.of ht, rfl, v1, [v2], rfl, v2, [], rfl, rfl, k v1 v2 H2 k2 p q⟩⟩
/-- xs[i] = e: xs a list at l that may be written -/
theorem ss_sub {o i : Expr} {q : Pos} (hv : Ev pa X e σ H P) (ho : Ev pa X o σ H Pa) (hi : Ev pa X i σ H Pb) [S1 : Stb pa P] [S2 : Stb pa Pa]
    (k : ∀ v x y H', Kp pa H H' → P v H' → Pa x H' → Pb y H' → ∃ l xs z j, x = .ref l ∧ y = .int z ∧ H' l = some (.lst xs) ∧ ixN xs.length z = some j ∧ Ss X rest σ (upd H' l (.lst (xs.set j v))) D)
    (ha : ∀ v, assign (.Subscript o i q) X.env v = (do
      let ov ← holding [v] (eval o X.env)
      let iv ← holding [v, ov] (eval i X.env)
      standAt q
      holding [v, ov, iv] (setItem ov iv v)
      release [v, ov, iv] []) := by intro _; rfl)
    (hs : swapsWithSole [.Subscript o i q] e pos.line X.env = pure false := by rfl) (hw : swappedStores [.Subscript o i q] e X.env = pure none := by rfl)
    (h1 : (assignEach [.Subscript o i q] X.env).map (·.2) = [assign (.Subscript o i q) X.env] := by rfl) :
    Ss X (.Assign [.Subscript o i q] e pos :: rest) σ H D :=
  ss_cons (ps_asg hv (pg_sub ho hi set_list ha) hs hw h1)
    ⟨rfl, Kp.refl _, fun v H2 k2 p => ⟨rfl, k2, fun x H3 k3 px => ⟨rfl, k2.trans k3, fun y H4 k4 py => by
      obtain ⟨l, xs, z, j, ex, ey, hl, hj, q⟩ := k v x y H4 ((k2.trans k3).trans k4) (S1.st _ _ _ (k3.trans k4) p) (S2.st _ _ _ k4 px) py
      exact ⟨l, xs, z, j, ex, ey, hl, hj, q⟩⟩⟩⟩
/-- o.f = e, o an instance -/
theorem ss_fld {o : Expr} {f : Str} {pos' : Pos} (hv : Ev pa X e σ H P) (ho : Ev pa X o σ H Pa) [S1 : Stb pa P]
    (k : ∀ v x H', Kp pa H H' → P v H' → Pa x H' → ∃ p C dx fs, x = .ref p ∧ H' p = some (.ins C dx fs) ∧ Cls X.K C ∧ NoAttr X.K C f ∧ fs.length < 1000 ∧ Ss X rest σ (upd H' p (.ins C dx (putF f v fs))) D)
    (hs : swapsWith e (some (.Attribute o f pos')) pos.line X.env = pure false := by rfl) : Ss X (.Assign [.Attribute o f pos'] e pos :: rest) σ H D :=
  ss_cons (ps_fld ho hv hs) ⟨rfl, Kp.refl _, fun v H2 k2 p => ⟨rfl, k2, fun x H3 k3 px => by
    obtain ⟨p, C, dx, fs, e, hp, c, n, l, q⟩ := k v x H3 (k2.trans k3) (S1.st _ _ _ k3 p) px
    exact ⟨p, C, dx, fs, e, hp, c, n, l, q⟩⟩⟩

/-! ### loops -/
abbrev Inn := Nat → L2.St → Hp → Prop
theorem ss_for {tg iter : Expr} {body : List Stmt} {wi : TI} {g : TG} (hi : PI X tg iter wi) (hg : PG X tg g)
    (q : tFor wi g (fun D σ H => Ss X body σ H D) { D with nx := fun σ' H' => Ss X rest σ' H' D } σ H) (hp : PassesOwn (model X.prog X.w) X.A X.env X.xe := by exact PassesOwn.never) (hc : X.calm = true := by rfl)
    (hs : ∀ x, foldedSetIterable iter X.env x = pure x := by intro _; rfl) : Ss X (.For tg iter body [] pos :: rest) σ H D :=
  ss_cons (ps_for hp hc hi hg Ss.pss hs) q
/-- for x in a list -/
theorem ss_forL (i : Nat) {x : Str} {px : Pos} {iter : Expr} {body : List Stmt} (xs : List V) (Pv : Addr → Inn) (hi : Ev pa X iter σ H P)
    (h0 : ∀ v H', Kp pa H H' → P v H' → ∃ a, v = .ref a ∧ Pv a 0 σ H') (hq : ∀ a i σ' H', i ≤ xs.length → Pv a i σ' H' → SqL X.K H' a xs)
    (hs : ∀ a n y σ' H', xs[n]? = some y → Pv a n σ' H' → Ss X body (σ'.set i (some y)) H' { D with nx := Pv a (n + 1), ct := Pv a (n + 1), bk := fun σ'' H'' => Ss X rest σ'' H'' D })
    (hd : ∀ a σ' H', Pv a xs.length σ' H' → Ss X rest σ' H' D)
    (hN : X.N.Nodup := by assumption) (hx : X.N[i]? = some x := by rfl) (hl : Loc X.env.scope x := by first | exact Or.inl rfl | exact Or.inr rfl)
    (hf : X.fn x = true ∨ X.env.scope.names.lookup x = some .local := by first | exact .inl rfl | exact .inr rfl | assumption) (hp : PassesOwn (model X.prog X.w) X.A X.env X.xe := by exact PassesOwn.never) (hc : X.calm = true := by rfl)
    (hfs : ∀ x, foldedSetIterable iter X.env x = pure x := by intro _; rfl) : Ss X (.For (.Name x px) iter body [] pos :: rest) σ H D := by
  refine ss_for (pi_list hi) (pg_name hN hx hl hf) ⟨rfl, Kp.refl _, fun v H2 k2 p => ?_⟩ hp hc hfs
  obtain ⟨a, e, w⟩ := h0 v H2 k2 p
  exact ⟨a, e, ⟨xs, hq a 0 σ H2 (Nat.zero_le _) w⟩, for_list (K := X.K) (a := a) (xs := xs) (g := gName i) (D := { D with nx := fun σ' H' => Ss X rest σ' H' D }) (tb := fun D σ H => Ss X body σ H D) (Pv a) w (fun n σ' H' hn w' => hq a n σ' H' hn w') (fun n y σ' H' hy w' => hs a n y σ' H' hy w') (fun σ' H' w' => hd a σ' H' w')⟩
/-- for k in range(n) -/
theorem ss_forR1 (i : Nat) {x : Str} {px pr pc : Pos} {body : List Stmt} {z : Int} (Pv : Inn) (hr : X.mg "range" = none) (ha : Ev pa X a σ H (Is (.int z))) (hz : -(2 ^ 62) ≤ z ∧ z < 2 ^ 62)
    (h0 : ∀ H', Kp pa H H' → Pv 0 σ H')
    (hs : ∀ n σ' H', n < z.toNat → Pv n σ' H' → Ss X body (σ'.set i (some (.int (n : Nat)))) H' { D with nx := Pv (n + 1), ct := Pv (n + 1), bk := fun σ'' H'' => Ss X rest σ'' H'' D })
    (hd : ∀ σ' H', Pv z.toNat σ' H' → Ss X rest σ' H' D) (hgr : Gl X "range" := by rfl)
    (hN : X.N.Nodup := by assumption) (hx : X.N[i]? = some x := by rfl) (hl : Loc X.env.scope x := by first | exact Or.inl rfl | exact Or.inr rfl)
    (hf : X.fn x = true ∨ X.env.scope.names.lookup x = some .local := by first | exact .inl rfl | exact .inr rfl | assumption) (hp : PassesOwn (model X.prog X.w) X.A X.env X.xe := by exact PassesOwn.never) (hc : X.calm = true := by rfl)
    (hsa : starEach [a] X.env = (false, eval a X.env) :: starEach [] X.env := by rfl) (hsr : starEach [a] X.env = [(false, eval a X.env)] := by rfl)
    (hfs : ∀ x, foldedSetIterable (.Call (.Name "range" pr) [a] [] pc) X.env x = pure x := by intro _; rfl) : Ss X (.For (.Name x px) (.Call (.Name "range" pr) [a] [] pc) body [] pos :: rest) σ H D := by
  refine ss_for (pi_range1 hgr hr (eva1 ha hsa) hsr) (pg_name hN hx hl hf) ⟨rfl, Kp.refl _, fun vs H2 k2 ⟨v, e, p⟩ => ?_⟩ hp hc hfs
  refine ⟨z, by rw [e, show v = V.int z from p], hz.1, hz.2, for_range (lo := 0) (n := z.toNat) (g := gName i) (D := { D with nx := fun σ' H' => Ss X rest σ' H' D }) (tb := fun D σ H => Ss X body σ H D) Pv (h0 H2 k2) (fun n σ' H' hn w' => ?_) (fun σ' H' w' => hd σ' H' w')⟩
  have q := hs n σ' H' hn w'
  rw [show ((0 : Int) + (n : Nat)) = ((n : Nat) : Int) by omega]
  exact q
/-- for k in range(a, b) -/
theorem ss_forR2 (i : Nat) {x : Str} {px pr pc : Pos} {body : List Stmt} {lo hi : Int} (Pv : Inn) (hr : X.mg "range" = none) (ha : Ev pa X a σ H (Is (.int lo))) (hb : Ev pa X b σ H (Is (.int hi))) (hz : (-(2 ^ 62) ≤ lo ∧ lo < 2 ^ 62 ∧ -(2 ^ 62) ≤ hi ∧ hi < 2 ^ 62))
    (h0 : ∀ H', Kp pa H H' → Pv 0 σ H')
    (hs : ∀ n σ' H', n < (hi - lo).toNat → Pv n σ' H' → Ss X body (σ'.set i (some (.int (lo + (n : Nat))))) H' { D with nx := Pv (n + 1), ct := Pv (n + 1), bk := fun σ'' H'' => Ss X rest σ'' H'' D })
    (hd : ∀ σ' H', Pv (hi - lo).toNat σ' H' → Ss X rest σ' H' D) (hgr : Gl X "range" := by rfl)
    (hN : X.N.Nodup := by assumption) (hx : X.N[i]? = some x := by rfl) (hl : Loc X.env.scope x := by first | exact Or.inl rfl | exact Or.inr rfl)
    (hf : X.fn x = true ∨ X.env.scope.names.lookup x = some .local := by first | exact .inl rfl | exact .inr rfl | assumption) (hp : PassesOwn (model X.prog X.w) X.A X.env X.xe := by exact PassesOwn.never) (hc : X.calm = true := by rfl)
    (hsa : starEach [a, b] X.env = (false, eval a X.env) :: starEach [b] X.env := by rfl) (hsb : starEach [b] X.env = (false, eval b X.env) :: starEach [] X.env := by rfl)
    (hs1 : starEach [a, b] X.env = [(false, eval a X.env), (false, eval b X.env)] := by rfl) (hs2 : starEach [b] X.env = [(false, eval b X.env)] := by rfl)
    (hfs : ∀ x, foldedSetIterable (.Call (.Name "range" pr) [a, b] [] pc) X.env x = pure x := by intro _; rfl) : Ss X (.For (.Name x px) (.Call (.Name "range" pr) [a, b] [] pc) body [] pos :: rest) σ H D := by
  refine ss_for (pi_range2 hgr hr (eva2 ha hb hsa hsb) hs1 hs2) (pg_name hN hx hl hf) ⟨rfl, Kp.refl _, fun vs H2 k2 ⟨v, w, e, p, q⟩ => ?_⟩ hp hc hfs
  exact ⟨lo, hi, by rw [e, show v = V.int lo from p, show w = V.int hi from q], hz, for_range (lo := lo) (n := (hi - lo).toNat) (g := gName i) (D := { D with nx := fun σ' H' => Ss X rest σ' H' D }) (tb := fun D σ H => Ss X body σ H D) Pv (h0 H2 k2) (fun n σ' H' hn w' => hs n σ' H' hn w') (fun σ' H' w' => hd σ' H' w')⟩
/-- for k in range(a, b, -1) -/
theorem ss_forDown (i : Nat) {x : Str} {px pr pc : Pos} {body : List Stmt} {lo hi : Int} (Pv : Inn) (hr : X.mg "range" = none) (ha : Ev pa X a σ H (Is (.int lo))) (hb : Ev pa X b σ H (Is (.int hi))) (hcc : Ev pa X c σ H (Is (.int (-1)))) (hz : (-(2 ^ 62) ≤ lo ∧ lo < 2 ^ 62 ∧ -(2 ^ 62) ≤ hi ∧ hi < 2 ^ 62))
    (h0 : ∀ H', Kp pa H H' → Pv 0 σ H')
    (hs : ∀ n σ' H', n < (lo - hi).toNat → Pv n σ' H' → Ss X body (σ'.set i (some (.int (lo + (n : Nat) * (-1))))) H' { D with nx := Pv (n + 1), ct := Pv (n + 1), bk := fun σ'' H'' => Ss X rest σ'' H'' D })
    (hd : ∀ σ' H', Pv (lo - hi).toNat σ' H' → Ss X rest σ' H' D) (hgr : Gl X "range" := by rfl)
    (hN : X.N.Nodup := by assumption) (hx : X.N[i]? = some x := by rfl) (hl : Loc X.env.scope x := by first | exact Or.inl rfl | exact Or.inr rfl)
    (hf : X.fn x = true ∨ X.env.scope.names.lookup x = some .local := by first | exact .inl rfl | exact .inr rfl | assumption) (hp : PassesOwn (model X.prog X.w) X.A X.env X.xe := by exact PassesOwn.never) (hc : X.calm = true := by rfl)
    (hsa : starEach [a, b, c] X.env = (false, eval a X.env) :: starEach [b, c] X.env := by rfl) (hsb : starEach [b, c] X.env = (false, eval b X.env) :: starEach [c] X.env := by rfl) (hsc : starEach [c] X.env = (false, eval c X.env) :: starEach [] X.env := by rfl)
    (hfs : ∀ x, foldedSetIterable (.Call (.Name "range" pr) [a, b, c] [] pc) X.env x = pure x := by intro _; rfl)
    (hpi : ∀ {ta : TA}, PA X [a, b, c] ta → PI X (.Name x px) (.Call (.Name "range" pr) [a, b, c] [] pc) (iRng3 ta) := by intro ta h; exact pi_range3 rfl (by assumption) h) : Ss X (.For (.Name x px) (.Call (.Name "range" pr) [a, b, c] [] pc) body [] pos :: rest) σ H D := by
  have hA : EvA pa X [a, b, c] σ H (fun vs _ => vs = [.int lo, .int hi, .int (-1)]) := EvA.of (pa_cons ha (pa_cons hb (pa_cons hcc pa_nil hsc) hsb) hsa) fun H1 Q k q => ⟨rfl, k, fun x1 H2 k2 p1 => ⟨rfl, k.trans k2, fun x2 H3 k3 p2 => ⟨rfl, (k.trans k2).trans k3, fun x3 H4 k4 p3 =>
    q _ H4 ((k2.trans k3).trans k4) (by rw [show x1 = V.int lo from p1, show x2 = V.int hi from p2, show x3 = V.int (-1) from p3])⟩⟩⟩
  refine ss_for (hpi hA) (pg_name hN hx hl hf) ⟨rfl, Kp.refl _, fun vs H2 k2 e => ?_⟩ hp hc hfs
  exact ⟨lo, hi, -1, (lo - hi).toNat, e, RgC.neg hz.1 hz.2.1 hz.2.2.1 hz.2.2.2, for_rangeC (lo := lo) (c := -1) (n := (lo - hi).toNat) (g := gName i) (D := { D with nx := fun σ' H' => Ss X rest σ' H' D }) (tb := fun D σ H => Ss X body σ H D) Pv (h0 H2 k2) (fun n σ' H' hn w' => hs n σ' H' hn w') (fun σ' H' w' => hd σ' H' w')⟩
/-- the turns of enumerate -/
theorem for_enum {K : PySem.W.Frag} {a : Addr} {xs : List V} {g : TG} {tb : TS} {D : Ends} {σ : L2.St} {H : Hp} (Pv : Inn) (h0 : Pv 0 σ H) (hq : ∀ i σ H, i ≤ xs.length → Pv i σ H → SqL K H a xs)
    (hs : ∀ (i : Nat) (x : V) (T : Addr) (σ : L2.St) (H : Hp), xs[i]? = some x → Pv i σ H → H T = none → g (.ref T) σ (upd H T (.tup [.int (i : Nat), x])) fun σ2 H2 => tb { D with nx := Pv (i + 1), ct := Pv (i + 1), bk := D.nx } σ2 H2) (hd : ∀ σ H, Pv xs.length σ H → D.nx σ H) :
    ∃ W : Nat → Nat → L2.St → Hp → Prop, (∃ m, W 0 m σ H) ∧ ∀ i m σ H, W i m σ H →
      ((Ite K a).stop i H ∧ D.nx σ H) ∨ ((Ite K a).go i H ∧ ∃ N : L2.St → Hp → Prop, (∀ σ' H', N σ' H' → ∃ m', m' < m ∧ W (i + 1) m' σ' H') ∧ ∀ v H', (Ite K a).yld i H v H' → g v σ H' fun σ2 H2 => tb { D with nx := N, ct := N, bk := D.nx } σ2 H2) := by
  refine ⟨fun i m σ H => m = xs.length - i ∧ i ≤ xs.length ∧ Pv i σ H, ⟨xs.length, rfl, Nat.zero_le _, h0⟩, ?_⟩
  rintro i m σ H ⟨rfl, hi, p⟩
  have qx := hq i σ H hi p
  by_cases hlt : i < xs.length
  · refine .inr ⟨⟨xs, xs[i], qx, by simp [hlt]⟩, Pv (i + 1), fun σ' H' p' => ⟨xs.length - (i + 1), by omega, rfl, hlt, p'⟩, fun v H' y => ?_⟩
    obtain ⟨T, x', rfl, hT, rfl, f1⟩ := y
    exact hs i x' T σ H (f1 xs qx) p hT
  · have e : i = xs.length := by omega
    subst e
    exact .inl ⟨⟨xs, qx, Nat.le_refl _⟩, hd σ H p⟩
/-- for i, x in enumerate(e) -/
theorem ss_forE (i j : Nat) {x y : Str} {px py pr pc pt : Pos} {kt} {it : Expr} {body : List Stmt} (xs : List V) (Pv : Addr → Inn) (he : X.mg "enumerate" = none) (hi : Ev pa X it σ H P)
    (h0 : ∀ v H', Kp pa H H' → P v H' → ∃ a, v = .ref a ∧ Pv a 0 σ H') (hq : ∀ a i σ' H', i ≤ xs.length → Pv a i σ' H' → SqL X.K H' a xs)
    (hs : ∀ a n w σ' H' H1, xs[n]? = some w → Pv a n σ' H' → Kp none H' H1 → Ss X body ((σ'.set i (some (.int (n : Nat)))).set j (some w)) H1 { D with nx := Pv a (n + 1), ct := Pv a (n + 1), bk := fun σ'' H'' => Ss X rest σ'' H'' D })
    (hd : ∀ a σ' H', Pv a xs.length σ' H' → Ss X rest σ' H' D) (hge : Gl X "enumerate" := by rfl)
    (hN : X.N.Nodup := by assumption) (hxi : X.N[i]? = some x := by rfl) (hyj : X.N[j]? = some y := by rfl)
    (hx : Loc X.env.scope x := by first | exact Or.inl rfl | exact Or.inr rfl) (hy : Loc X.env.scope y := by first | exact Or.inl rfl | exact Or.inr rfl)
    (hfx : X.fn x = true ∨ X.env.scope.names.lookup x = some .local := by first | exact .inl rfl | exact .inr rfl | assumption) (hfy : X.fn y = true ∨ X.env.scope.names.lookup y = some .local := by first | exact .inl rfl | exact .inr rfl | assumption)
    (hp : PassesOwn (model X.prog X.w) X.A X.env X.xe := by exact PassesOwn.never) (hc : X.calm = true := by rfl)
    (hsa : starEach [it] X.env = (false, eval it X.env) :: starEach [] X.env := by rfl) (hsr : starEach [it] X.env = [(false, eval it X.env)] := by rfl)
    (hn : (assignEach [.Name x px, .Name y py] X.env).length = 2 := by rfl) (hst : (assignEach [.Name x px, .Name y py] X.env).findIdx? (·.1) = none := by rfl)
    (hs1 : (assignEach [.Name x px, .Name y py] X.env).map (·.2) = assign (.Name x px) X.env :: (assignEach [.Name y py] X.env).map (·.2) := by rfl)
    (hs2 : (assignEach [.Name y py] X.env).map (·.2) = assign (.Name y py) X.env :: (assignEach [] X.env).map (·.2) := by rfl)
    (hfs : ∀ x, foldedSetIterable (.Call (.Name "enumerate" pr) [it] [] pc) X.env x = pure x := by intro _; rfl) :
    Ss X (.For (.Tuple [.Name x px, .Name y py] kt pt) (.Call (.Name "enumerate" pr) [it] [] pc) body [] pos :: rest) σ H D := by
  refine ss_for (pi_enum hge he (eva1 hi hsa) hsr) (pg_tup hc (pgs_cons (pg_name hN hxi hx hfx) (pgs_cons (pg_name hN hyj hy hfy) pgs_nil hs2) hs1) hn hst) ⟨rfl, Kp.refl _, fun vs H2 k2 ⟨v, e, p⟩ => ?_⟩ hp hc hfs
  obtain ⟨a, ea, w⟩ := h0 v H2 k2 p
  refine ⟨a, xs, by rw [e, ea], hq a 0 σ H2 (Nat.zero_le _) w, for_enum (K := X.K) (a := a) (xs := xs) (g := gTup X.K 2 (gCons (gName i) (gCons (gName j) gNil))) (D := { D with nx := fun σ' H' => Ss X rest σ' H' D }) (tb := fun D σ H => Ss X body σ H D) (Pv a) w (fun n σ' H' hn w' => hq a n σ' H' hn w') (fun n y T σ' H' hy w' hT => ?_) (fun σ' H' w' => hd a σ' H' w')⟩
  exact ⟨T, _, rfl, SqT.of upd_same, rfl, _, _, rfl, _, _, rfl, rfl, hs a n y σ' H' _ hy w' (Kp.new hT)⟩
/-- while -/
theorem ss_while {body : List Stmt} (W : Nat → L2.St → Hp → Prop) (n : Nat) (h0 : W n σ H)
    (hs : ∀ n σ' H', W n σ' H' → ∃ Pc, Et pa X c σ' H' Pc ∧ (∀ H1, Kp pa H' H1 → Pc true H1 → Ss X body σ' H1 { D with nx := fun σ'' H'' => ∃ m, m < n ∧ W m σ'' H'', ct := fun σ'' H'' => ∃ m, m < n ∧ W m σ'' H'', bk := fun σ'' H'' => Ss X rest σ'' H'' D }) ∧
      (∀ H1, Kp pa H' H1 → Pc false H1 → Ss X rest σ' H1 D)) (hp : PassesOwn (model X.prog X.w) X.A X.env X.xe := by exact PassesOwn.never) : Ss X (.While c body [] pos :: rest) σ H D := by
  have hc : PT X c (fun σ H Q => ∃ Pc, Et pa X c σ H Pc ∧ ∀ b H', Kp pa H H' → Pc b H' → Q b H') := ⟨fun pins s σ H Q I ⟨Pc, h, q⟩ => h.run pins s σ H Q I ⟨rfl, Kp.refl _, q⟩⟩
  refine ss_cons (ps_while hp hc Ss.pss) ⟨W, ⟨n, h0⟩, fun m σ' H' w => ?_⟩
  obtain ⟨Pc, h1, h2, h3⟩ := hs m σ' H' w
  refine ⟨Pc, h1, fun b H1 k p => ?_⟩
  cases b with
  | true => exact ⟨_, fun σ'' H'' h => h, h2 H1 k p⟩
  | false => exact h3 H1 k p
end
end RR
-- RD
namespace RR
open PySem PySem.Spec PyProof.Rows L2

/-! ### argument lists by name -/
def AN : List V → Hp → Prop := fun vs _ => vs = []
def AC (P : V → Hp → Prop) (R : List V → Hp → Prop) : List V → Hp → Prop := fun vs H => ∃ v r, vs = v :: r ∧ P v H ∧ R r H
class StbA (pa : Option Addr) (P : List V → Hp → Prop) : Prop where
  st : ∀ v H1 H2, Kp pa H1 H2 → P v H1 → P v H2
instance {pa : Option Addr} : StbA pa AN := ⟨fun _ _ _ _ h => h⟩
instance {pa : Option Addr} {P : V → Hp → Prop} {R : List V → Hp → Prop} [S : Stb pa P] [T : StbA pa R] : StbA pa (AC P R) := ⟨fun _ _ _ k ⟨v, r, e, p, q⟩ => ⟨v, r, e, S.st _ _ _ k p, T.st _ _ _ k q⟩⟩
/-- the pot, if there is one, stands -/
def PotOk (pa : Option Addr) (H : Hp) : Prop := ∀ a, pa = some a → ∃ o, H a = some o ∧ isPot o
theorem potN {H : Hp} : PotOk none H := fun _ e => nomatch e
theorem PotOk.at {pa : Option Addr} {H H' : Hp} (h : PotOk pa H) (k : Kp pa H H') : PotOk pa H' := fun a e => by
  subst e
  obtain ⟨o, h1, p⟩ := h a rfl
  exact k.pot h1 p
theorem PotOk.ne {pa : Option Addr} {H : Hp} {p : Addr} (h : PotOk pa H) (n : H p = none) : pa ≠ some p := fun e => by
  obtain ⟨o, h1, _⟩ := h p e
  rw [n] at h1
  cases h1

section
variable {X : Cx} {pa : Option Addr} {σ : L2.St} {H H' : Hp} {e a b c : Expr} {es : List Expr} {pos : Pos} {P P' Pa Pb : V → Hp → Prop} {R : List V → Hp → Prop} {i j : Int}
theorem ea0 : EvA pa X [] σ H AN := eva_nil
theorem ea (ha : Ev pa X e σ H P) (hr : EvA pa X es σ H R) [S : Stb pa P] (hs : starEach (e :: es) X.env = (false, eval e X.env) :: starEach es X.env := by rfl) : EvA pa X (e :: es) σ H (AC P R) := eva_cons ha hr hs
/-- one argument, of which nothing need stay -/
theorem ea1 (ha : Ev pa X e σ H P) (hs : starEach [e] X.env = (false, eval e X.env) :: starEach [] X.env := by rfl) : EvA pa X [e] σ H (AC P AN) :=
  EvA.of (pa_cons ha pa_nil hs) fun H1 Q k q => ⟨rfl, k, fun v H2 k2 pv => q _ H2 k2 ⟨v, [], rfl, pv, rfl⟩⟩
/-- a value in which nothing changes: one operand -/
theorem ev_un1 {te : TE} (h : ∀ {ta}, PE X a ta → PE X e te) : True := trivial

/-! ### lists, tuples -/
/-- a new list; R of its items -/
def NL (H0 : Hp) (R : List V → Hp → Prop) : V → Hp → Prop := fun v H => ∃ p xs, v = .ref p ∧ H0 p = none ∧ H p = some (.lst xs) ∧ R xs H
def NT (H0 : Hp) (R : List V → Hp → Prop) : V → Hp → Prop := fun v H => ∃ p xs, v = .ref p ∧ H0 p = none ∧ H p = some (.tup xs) ∧ R xs H
instance {H0 : Hp} {R : List V → Hp → Prop} [S : StbA none R] : Stb none (NL H0 R) := ⟨fun v H1 H2 k ⟨p, xs, e, n, h, r⟩ => ⟨p, xs, e, n, k.get0 h, S.st _ _ _ k r⟩⟩
instance {pa : Option Addr} {H0 : Hp} {R : List V → Hp → Prop} [S : StbA pa R] : Stb pa (NT H0 R) := ⟨fun v H1 H2 k ⟨p, xs, e, n, h, r⟩ => ⟨p, xs, e, n, k.get h (fun z => z), S.st _ _ _ k r⟩⟩
theorem ev_list (ha : EvA pa X es σ H R) [S : StbA pa R] (hz : ∀ vs H', Kp pa H H' → R vs H' → vs.length ≤ sizeLine) : Ev pa X (.List es pos) σ H (NL H R) :=
  Ev.of (pe_lst ha) fun H1 Q k q => ⟨rfl, k, fun vs H2 k2 r => ⟨hz vs H2 (k.trans k2) r, fun p hp => q _ _ (k2.trans (Kp.new hp)) ⟨p, vs, rfl, (k.trans k2).free hp, upd_same, S.st _ _ _ (Kp.new hp) r⟩⟩⟩
theorem ev_tup {x1} (ha : EvA pa X es σ H R) [S : StbA pa R] (hz : ∀ vs H', Kp pa H H' → R vs H' → vs.length ≤ sizeLine) : Ev pa X (.Tuple es x1 pos) σ H (NT H R) :=
  Ev.of (pe_tup ha) fun H1 Q k q => ⟨rfl, k, fun vs H2 k2 r => ⟨hz vs H2 (k.trans k2) r, fun p hp => q _ _ (k2.trans (Kp.new hp)) ⟨p, vs, rfl, (k.trans k2).free hp, upd_same, S.st _ _ _ (Kp.new hp) r⟩⟩⟩
theorem small {n : Nat} (h : n ≤ 100000) : n ≤ sizeLine := Nat.le_trans h (by decide)
theorem smallLt {n : Nat} (h : n < 100000) : n < sizeLine := Nat.lt_of_lt_of_le h (by decide)
/-- [] -/
theorem ev_nil : Ev pa X (.List [] pos) σ H (NL H (fun xs _ => xs = [])) :=
  Ev.of (pe_lst pa_nil) fun H1 Q k q => ⟨Nat.zero_le _, fun p hp => q _ _ (Kp.new hp) ⟨p, [], rfl, k.free hp, upd_same, rfl⟩⟩
/-- a built-in's call -/
theorem ev_blt1 {x : Str} {id : String} {r : List V → Hp → VK → Prop} {p : Pos} (hc : CallR X (.builtin id) r) (hv : bootBuiltins x = some (.builtin id)) (hm : X.mg x = none) (ha : EvA pa X (e :: es) σ H R)
    (h : ∀ vs H1 Q, Kp pa H H1 → R vs H1 → (∀ v H2, Kp pa H1 H2 → P v H2 → Q v H2) → r vs H1 Q) (hg : Gl X x := by rfl) (hn : x ≠ "__name__" := by decide) (hdb : (x == ("__debug__" : Str)) = false := by decide)
    (he : starEach (e :: es) X.env = (false, eval e X.env) :: starEach es X.env := by rfl) (hpl : (backTo pos (starEach es X.env)).any (·.1) = false := by rfl) : Ev pa X (.Call (.Name x p) (e :: es) [] pos) σ H P :=
  Ev.of (pe_callB hc hg hm hv ha hn hdb he hpl) fun H1 Q k q => ⟨rfl, k, fun vs H2 k2 r => h vs H2 Q (k.trans k2) r fun v H3 k3 p => q v H3 (k2.trans k3) p⟩
theorem ev_ty1 {x : Str} {id : String} {r : List V → Hp → VK → Prop} {p : Pos} (hc : CallR X (.type id) r) (hv : bootBuiltins x = some (.type id)) (hm : X.mg x = none) (ha : EvA pa X (e :: es) σ H R)
    (h : ∀ vs H1 Q, Kp pa H H1 → R vs H1 → (∀ v H2, Kp pa H1 H2 → P v H2 → Q v H2) → r vs H1 Q) (hg : Gl X x := by rfl) (hn : x ≠ "__name__" := by decide) (hdb : (x == ("__debug__" : Str)) = false := by decide)
    (he : starEach (e :: es) X.env = (false, eval e X.env) :: starEach es X.env := by rfl) (hpl : (backTo pos (starEach es X.env)).any (·.1) = false := by rfl) : Ev pa X (.Call (.Name x p) (e :: es) [] pos) σ H P :=
  Ev.of (pe_callTy hc hg hm hv ha hn hdb he hpl) fun H1 Q k q => ⟨rfl, k, fun vs H2 k2 r => h vs H2 Q (k.trans k2) r fun v H3 k3 p => q v H3 (k2.trans k3) p⟩
theorem ev_len {n : Nat} {p : Pos} (hm : X.mg "len" = none) (ha : Ev pa X a σ H P) (h : ∀ v H', Kp pa H H' → P v H' → ∃ p ys, v = .ref p ∧ (SqL X.K H' p ys ∨ SqT X.K H' p ys) ∧ ys.length = n)
    (hg : Gl X "len" := by rfl) (he : starEach [a] X.env = (false, eval a X.env) :: starEach [] X.env := by rfl) (hpl : (backTo pos (starEach [] X.env)).any (·.1) = false := by rfl) : Ev pa X (.Call (.Name "len" p) [a] [] pos) σ H (Is (.int n)) :=
  ev_blt1 call_len_seq PySem.boot_len hm (ea1 ha he) (fun vs H1 Q k ⟨v, r, e, p, er⟩ q => by
    obtain rfl : r = [] := er
    obtain ⟨p', ys, ev, s, l⟩ := h v H1 k p
    exact ⟨p', ys, by rw [e, ev], s, by rw [l]; exact q _ H1 (Kp.refl _) rfl⟩) hg (by decide) (by decide) he hpl
theorem ev_abs {p : Pos} (hm : X.mg "abs" = none) (ha : Ev pa X a σ H (Is (.int i))) (hg : Gl X "abs" := by rfl) (he : starEach [a] X.env = (false, eval a X.env) :: starEach [] X.env := by rfl) (hpl : (backTo pos (starEach [] X.env)).any (·.1) = false := by rfl) :
    Ev pa X (.Call (.Name "abs" p) [a] [] pos) σ H (Is (.int i.natAbs)) :=
  ev_blt1 call_abs (by decide +kernel) hm (ea1 ha he) (fun vs H1 Q k ⟨v, r, e, p, er⟩ q => by
    obtain rfl : r = [] := er
    obtain rfl : v = .int i := p
    refine ⟨i, e, ?_⟩
    rw [show (if i < 0 then -i else i) = (i.natAbs : Int) by split <;> omega]
    exact q _ H1 (Kp.refl _) rfl) hg (by decide) (by decide) he hpl
theorem ev_max {p : Pos} (hm : X.mg "max" = none) (ha : Ev pa X a σ H (Is (.int i))) (hb : Ev pa X b σ H (Is (.int j))) (hc : X.calm = true := by rfl) (hg : Gl X "max" := by rfl) (he : starEach [a, b] X.env = (false, eval a X.env) :: starEach [b] X.env := by rfl)
    (he2 : starEach [b] X.env = (false, eval b X.env) :: starEach [] X.env := by rfl) (hpl : (backTo pos (starEach [b] X.env)).any (·.1) = false := by rfl) : Ev pa X (.Call (.Name "max" p) [a, b] [] pos) σ H (Is (.int (max i j))) :=
  ev_blt1 (call_max2 hc) (by decide +kernel) hm (ea ha (ea1 hb he2) he) (fun vs H1 Q k ⟨v, r, e, p, w, r2, e2, p2, er⟩ q => by
    obtain rfl : r2 = [] := er
    obtain rfl : v = .int i := p
    obtain rfl : w = .int j := p2
    refine ⟨i, j, by rw [e, e2], ?_⟩
    rw [show (if j > i then j else i) = max i j by split <;> omega]
    exact q _ H1 (Kp.refl _) rfl) hg (by decide) (by decide) he hpl
theorem ev_min {p : Pos} (hm : X.mg "min" = none) (ha : Ev pa X a σ H (Is (.int i))) (hb : Ev pa X b σ H (Is (.int j))) (hc : X.calm = true := by rfl) (hg : Gl X "min" := by rfl) (he : starEach [a, b] X.env = (false, eval a X.env) :: starEach [b] X.env := by rfl)
    (he2 : starEach [b] X.env = (false, eval b X.env) :: starEach [] X.env := by rfl) (hpl : (backTo pos (starEach [b] X.env)).any (·.1) = false := by rfl) : Ev pa X (.Call (.Name "min" p) [a, b] [] pos) σ H (Is (.int (min i j))) :=
  ev_blt1 (call_min2 hc) (by decide +kernel) hm (ea ha (ea1 hb he2) he) (fun vs H1 Q k ⟨v, r, e, p, w, r2, e2, p2, er⟩ q => by
    obtain rfl : r2 = [] := er
    obtain rfl : v = .int i := p
    obtain rfl : w = .int j := p2
    refine ⟨i, j, by rw [e, e2], ?_⟩
    rw [show (if j < i then j else i) = min i j by split <;> omega]
    exact q _ H1 (Kp.refl _) rfl) hg (by decide) (by decide) he hpl
theorem ev_intI {p : Pos} (hm : X.mg "int" = none) (ha : Ev pa X a σ H (Is (.int i))) (hg : Gl X "int" := by rfl) (he : starEach [a] X.env = (false, eval a X.env) :: starEach [] X.env := by rfl) (hpl : (backTo pos (starEach [] X.env)).any (·.1) = false := by rfl) :
    Ev pa X (.Call (.Name "int" p) [a] [] pos) σ H (Is (.int i)) :=
  ev_ty1 call_int1 (by decide +kernel) hm (ea1 ha he) (fun vs H1 Q k ⟨v, r, e, p, er⟩ q => by
    obtain rfl : r = [] := er
    obtain rfl : v = .int i := p
    exact .inl ⟨i, e, q _ H1 (Kp.refl _) rfl⟩) hg (by decide) (by decide) he hpl
theorem ev_intB {p : Pos} {k : Bool} (hm : X.mg "int" = none) (ha : Ev pa X a σ H (Is (.bl k))) (hg : Gl X "int" := by rfl) (he : starEach [a] X.env = (false, eval a X.env) :: starEach [] X.env := by rfl) (hpl : (backTo pos (starEach [] X.env)).any (·.1) = false := by rfl) :
    Ev pa X (.Call (.Name "int" p) [a] [] pos) σ H (Is (.int (if k then 1 else 0))) :=
  ev_ty1 call_int1 (by decide +kernel) hm (ea1 ha he) (fun vs H1 Q _ ⟨v, r, e, p, er⟩ q => by
    obtain rfl : r = [] := er
    obtain rfl : v = .bl k := p
    exact .inr ⟨k, e, q _ H1 (Kp.refl _) rfl⟩) hg (by decide) (by decide) he hpl
/-- isinstance(e, T), T a built-in class or an own one -/
theorem ev_isi {c : Expr} {cv : V} {u t : Value} {k : Bool} {p : Pos} (hm : X.mg "isinstance" = none) (ha : Ev pa X a σ H P) [S : Stb pa P] (hc : Ev pa X c σ H (Is cv)) (hu : ClsV cv u) (hk : PySem.W.kitOne X.K t u = some k) (ht : ∀ v H', Kp pa H H' → P v H' → TyX X.K H' v t)
    (hg : Gl X "isinstance" := by rfl) (he : starEach [a, c] X.env = (false, eval a X.env) :: starEach [c] X.env := by rfl)
    (he2 : starEach [c] X.env = (false, eval c X.env) :: starEach [] X.env := by rfl) (hpl : (backTo pos (starEach [c] X.env)).any (·.1) = false := by rfl) : Ev pa X (.Call (.Name "isinstance" p) [a, c] [] pos) σ H (Is (.bl k)) :=
  ev_blt1 call_isi (by decide +kernel) hm (ea ha (ea1 hc he2) he) (fun vs H1 Q k1 ⟨v, r, e, p, w, r2, e2, p2, er⟩ q => by
    obtain rfl : r2 = [] := er
    obtain rfl : w = cv := p2
    exact ⟨v, w, t, u, k, by rw [e, e2], hu, ht v H1 k1 p, hk, q _ H1 (Kp.refl _) rfl⟩) hg (by decide) (by decide) he hpl
/-- isinstance(e, (T, U)) -/
theorem ev_isiT {c d : Expr} {T U : String} {t : Value} {k : Bool} {p : Pos} {x1 pt} (hm : X.mg "isinstance" = none) (ha : Ev pa X a σ H P) [S : Stb pa P] (hc : Ev pa X c σ H (Is (.ty T))) (hd : Ev pa X d σ H (Is (.ty U))) (hk : PySem.W.kitAny X.K t [.type T, .type U] = some k) (ht : ∀ v H', Kp pa H H' → P v H' → TyX X.K H' v t)
    (hg : Gl X "isinstance" := by rfl) (he : starEach [a, .Tuple [c, d] x1 pt] X.env = (false, eval a X.env) :: starEach [.Tuple [c, d] x1 pt] X.env := by rfl)
    (he2 : starEach [.Tuple [c, d] x1 pt] X.env = (false, eval (.Tuple [c, d] x1 pt) X.env) :: starEach [] X.env := by rfl) (hpl : (backTo pos (starEach [.Tuple [c, d] x1 pt] X.env)).any (·.1) = false := by rfl)
    (hc1 : starEach [c, d] X.env = (false, eval c X.env) :: starEach [d] X.env := by rfl) (hc2 : starEach [d] X.env = (false, eval d X.env) :: starEach [] X.env := by rfl) : Ev pa X (.Call (.Name "isinstance" p) [a, .Tuple [c, d] x1 pt] [] pos) σ H (Is (.bl k)) :=
  ev_blt1 call_isiT (by decide +kernel) hm (ea ha (ea1 (ev_tup (ea hc (ea hd ea0 hc2) hc1) (fun vs H' _ ⟨_, _, e, _, _, _, e2, _, e3⟩ => by rw [e, e2, show _ = [] from e3]; show 2 ≤ sizeLine; decide)) he2) he) (fun vs H1 Q k1 ⟨v, r, e, p, w, r2, e2, ⟨tp, xs, et, _, htp, y1, _, ey1, py1, y2, _, ey2, py2, en⟩, er⟩ q => by
    obtain rfl : r2 = [] := er
    subst et
    obtain rfl : y1 = .ty T := py1
    obtain rfl : y2 = .ty U := py2
    rw [ey1, ey2, show _ = [] from en] at htp
    exact ⟨v, tp, _, t, _, k, by rw [e, e2], htp, .cons (.ty T) (.cons (.ty U) .nil), ht v H1 k1 p, hk, q _ H1 (Kp.refl _) rfl⟩) hg (by decide) (by decide) he hpl
/-- e.f, a field -/
theorem ev_fld {f : Str} (ha : Ev pa X a σ H Pa) (h : ∀ v H', Kp pa H H' → Pa v H' → ∃ p C dx fs w, v = .ref p ∧ H' p = some (.ins C dx fs) ∧ Cls X.K C ∧ NoAttr X.K C f ∧ fs.lookup f = some w ∧ P w H')
    (hb : attributeBase a f X.env (eval a X.env) = eval a X.env := by rfl) : Ev pa X (.Attribute a f pos) σ H P :=
  Ev.of (pe_fld ha hb) fun H1 Q k q => ⟨rfl, k, fun v H2 k2 p => by
    obtain ⟨p', C, dx, fs, w, e, hp, c, n, l, pw⟩ := h v H2 (k.trans k2) p
    exact ⟨p', C, dx, fs, w, e, hp, c, n, l, q w H2 k2 pw⟩⟩
theorem plainIx_all {b : Expr} (h : ∀ o i, subscripted b false o i = operate [o, i] (getItem o i)) : PlainIx b := h
/-- xs[i], a list -/
theorem ev_ix (ha : Ev pa X a σ H Pa) [S : Stb pa Pa] (hb : Ev pa X b σ H (Is (.int i))) (h : ∀ v H', Kp pa H H' → Pa v H' → ∃ p xs x, v = .ref p ∧ SqL X.K H' p xs ∧ atI xs i = some x ∧ P x H') (hs : PlainIx b := by intro _ _; rfl) : Ev pa X (.Subscript a b pos) σ H P :=
  Ev.of (pe_ix ix_list ha hb hs) fun H1 Q k q => ⟨rfl, k, fun v H2 k2 p => ⟨rfl, k.trans k2, fun w H3 k3 pw => by
    obtain ⟨p', xs, x, e, hp, hx, px⟩ := h v H3 ((k.trans k2).trans k3) (S.st _ _ _ k3 p)
    exact ⟨p', xs, i, x, e, pw, hp, hx, q x H3 (k2.trans k3) px⟩⟩⟩
/-- t[i], a tuple -/
theorem ev_ixT (ha : Ev pa X a σ H Pa) [S : Stb pa Pa] (hb : Ev pa X b σ H (Is (.int i))) (h : ∀ v H', Kp pa H H' → Pa v H' → ∃ p xs x, v = .ref p ∧ SqT X.K H' p xs ∧ atI xs i = some x ∧ P x H') (hs : PlainIx b := by intro _ _; rfl) : Ev pa X (.Subscript a b pos) σ H P :=
  Ev.of (pe_ix ix_tup ha hb hs) fun H1 Q k q => ⟨rfl, k, fun v H2 k2 p => ⟨rfl, k.trans k2, fun w H3 k3 pw => by
    obtain ⟨p', xs, x, e, hp, hx, px⟩ := h v H3 ((k.trans k2).trans k3) (S.st _ _ _ k3 p)
    exact ⟨p', xs, i, x, e, pw, hp, hx, q x H3 (k2.trans k3) px⟩⟩⟩
/-- xs[i] where the place is open and finding it may change the pot -/
theorem ev_ixS {S' : Int → Prop} (ha : Ev pa X a σ H Pa) [S : Stb pa Pa] (hb : Ev pa X b σ H (IsS S')) (h : ∀ z v H', S' z → Kp pa H H' → Pa v H' → ∃ p xs x, v = .ref p ∧ SqL X.K H' p xs ∧ atI xs z = some x ∧ P x H') (hs : PlainIx b := by intro _ _; rfl) : Ev pa X (.Subscript a b pos) σ H P :=
  Ev.of (pe_ix ix_list ha hb hs) fun H1 Q k q => ⟨rfl, k, fun v H2 k2 p => ⟨rfl, k.trans k2, fun w H3 k3 ⟨z, ew, pz⟩ => by
    obtain ⟨p', xs, x, e, hp, hx, px⟩ := h z v H3 pz ((k.trans k2).trans k3) (S.st _ _ _ k3 p)
    exact ⟨p', xs, z, x, e, ew, hp, hx, q x H3 (k2.trans k3) px⟩⟩⟩
/-- a slice's ends -/
def EO (pa : Option Addr) (X : Cx) (e : Option Expr) (σ : L2.St) (H : Hp) (o : Option Int) : Prop := PO X e (fun σ' H1 Q => σ' = σ ∧ Kp pa H H1 ∧ ∀ H2, Kp pa H1 H2 → Q o H2)
theorem eo_none : EO pa X none σ H none := ⟨fun pins s σ' H1 Q I ⟨e, k, q⟩ => by subst e; exact po_none.run pins s σ' H1 Q I (q H1 (Kp.refl _))⟩
theorem eo_some (h : Ev pa X e σ H (Is (.int i))) : EO pa X (some e) σ H (some i) := ⟨fun pins s σ' H1 Q I ⟨e, k, q⟩ => by subst e; exact (po_some h).run pins s σ' H1 Q I ⟨rfl, k, fun v H2 k2 p => ⟨i, p, q H2 k2⟩⟩⟩
/-- xs[lo:hi], a list -/
theorem ev_sl {lo hi : Option Expr} {ol oh : Option Int} {p2} (ha : Ev pa X a σ H Pa) [S : Stb pa Pa] (hl : EO pa X lo σ H ol) (hh : EO pa X hi σ H oh)
    (h : ∀ v H', Kp pa H H' → Pa v H' → ∃ p xs, v = .ref p ∧ SqL X.K H' p xs ∧ ∀ q, H' q = none → P (.ref q) (upd H' q (.lst (cutV xs ol oh)))) : Ev pa X (.Subscript a (.Slice lo hi none p2) pos) σ H P :=
  Ev.of (pe_slice sl_list ha hl hh) fun H1 Q k q => ⟨rfl, k, fun v H2 k2 p => ⟨rfl, k.trans k2, fun H3 k3 => ⟨rfl, (k.trans k2).trans k3, fun H4 k4 => by
    obtain ⟨p', xs, e, hp, px⟩ := h v H4 (((k.trans k2).trans k3).trans k4) (S.st _ _ _ (k3.trans k4) p)
    exact ⟨p', xs, e, hp, fun r hr => q _ _ ((k2.trans (k3.trans k4)).trans (Kp.new hr)) (px r hr)⟩⟩⟩⟩
/-- list(xs) -/
theorem ev_listOf {p : Pos} (hm : X.mg "list" = none) (ha : Ev pa X a σ H Pa) (h : ∀ v H', Kp pa H H' → Pa v H' → ∃ p xs, v = .ref p ∧ (SqL X.K H' p xs ∨ SqT X.K H' p xs) ∧ ∀ q, H' q = none → P (.ref q) (upd H' q (.lst xs)))
    (hg : Gl X "list" := by rfl) (he : starEach [a] X.env = (false, eval a X.env) :: starEach [] X.env := by rfl) (hpl : (backTo pos (starEach [] X.env)).any (·.1) = false := by rfl) : Ev pa X (.Call (.Name "list" p) [a] [] pos) σ H P :=
  ev_ty1 call_list_of (by decide +kernel) hm (ea1 ha he) (fun vs H1 Q k ⟨v, r, e, p, er⟩ q => by
    obtain rfl : r = [] := er
    obtain ⟨p', xs, e2, hp, px⟩ := h v H1 k p
    exact ⟨p', xs, by rw [e, e2], hp, fun r hr => q _ _ (Kp.new hr) (px r hr)⟩) hg (by decide) (by decide) he hpl
/-- xs * k -/
theorem ev_rep (ha : Ev pa X a σ H Pa) [S : Stb pa Pa] (hb : Ev pa X b σ H (Is (.int i))) (hi : -(2 ^ 63) ≤ i ∧ i < 2 ^ 63) (h : ∀ v H', Kp pa H H' → Pa v H' → ∃ p xs, v = .ref p ∧ H' p = some (.lst xs) ∧ xs.length * i.toNat ≤ sizeLine ∧ ∀ q, H' q = none → P (.ref q) (upd H' q (.lst (List.replicate i.toNat xs).flatten))) : Ev pa X (.BinOp a .Mult b pos) σ H P :=
  ev_bin op_rep ha hb fun x y H2 Q k px py q => by
    obtain ⟨p, xs, e, hp, hz, hh⟩ := h x H2 k px
    exact ⟨p, i, xs, e, py, hp, hi.1, hi.2, hz, fun r hr => q _ _ (Kp.new hr) (hh r hr)⟩
/-- xs + ys -/
theorem ev_cat (ha : Ev pa X a σ H Pa) [S : Stb pa Pa] (hb : Ev pa X b σ H Pb) (h : ∀ v w H', Kp pa H H' → Pa v H' → Pb w H' → ∃ p r xs ys, v = .ref p ∧ w = .ref r ∧ H' p = some (.lst xs) ∧ H' r = some (.lst ys) ∧ xs.length + ys.length ≤ sizeLine ∧ ∀ q, H' q = none → P (.ref q) (upd H' q (.lst (xs ++ ys)))) : Ev pa X (.BinOp a .Add b pos) σ H P :=
  ev_bin op_cat ha hb fun x y H2 Q k px py q => by
    obtain ⟨p, r, xs, ys, e, e2, hp, hr, hz, hh⟩ := h x y H2 k px py
    exact ⟨p, r, xs, ys, e, e2, hp, hr, hz, fun r hr => q _ _ (Kp.new hr) (hh r hr)⟩
end

/-! ### comprehensions -/
section
variable {X : Cx} {pa : Option Addr} {σ : L2.St} {H H' : Hp} {elt iter : Expr} {pos : Pos} {P Pa : V → Hp → Prop}
/-- what an element is, in the block -/
abbrev InBlk (pa : Option Addr) (X : Cx) (scope : Scope) (elt : Expr) (σ : L2.St) (H : Hp) (P : V → Hp → Prop) : Prop :=
  ∀ (s : Shared) (H0 : Hp) (C : Addr) (cl : List (Str × Addr)) (fp : List Addr), Ev pa (X.blk s H0 scope (compEnvC scope cl C X.env) fp) elt σ H P
/-- the items of a list, one said of each -/
def Each (n : Nat) (R : Nat → V → Hp → Prop) : List V → Hp → Prop := fun ys H => ys.length = n ∧ ∀ i y, ys[i]? = some y → R i y H
instance {n : Nat} {R : Nat → V → Hp → Prop} [S : ∀ i, Stb pa (R i)] : StbA pa (Each n R) := ⟨fun ys H1 H2 k ⟨l, h⟩ => ⟨l, fun i y e => (S i).st _ _ _ k (h i y e)⟩⟩
def tBlk (pa : Option Addr) (X : Cx) (scope : Scope) (elt : Expr) : TE := fun σ H Q => ∃ P, InBlk pa X scope elt σ H P ∧ ∀ v H', Kp pa H H' → P v H' → Q v H'
theorem tBlk_ok {scope : Scope} (s : Shared) (H0 : Hp) (C : Addr) (cl : List (Str × Addr)) (fp : List Addr) : PE (X.blk s H0 scope (compEnvC scope cl C X.env) fp) elt (tBlk pa X scope elt) :=
  ⟨fun pins s1 σ H Q I ⟨P, h, q⟩ => (h s H0 C cl fp).run pins s1 σ H Q I ⟨rfl, Kp.refl _, q⟩⟩
/-- what is said of a value speaks of no list -/
class StbL (P : V → Hp → Prop) : Prop where
  st : ∀ v H H' D xs, H D = some (.lst xs) → (∀ b o, H b = some o → b ≠ D → H' b = some o) → P v H → P v H'
instance {v0 : V} : StbL (Is v0) := ⟨fun _ _ _ _ _ _ _ h => h⟩
instance {S : Int → Prop} : StbL (IsS S) := ⟨fun _ _ _ _ _ _ _ h => h⟩
/-- the list so far, at a new place -/
structure LcInv (pa : Option Addr) (H1 : Hp) (D : Addr) (R : Nat → V → Hp → Prop) (i : Nat) (H' : Hp) : Prop where
  kp : Kp pa H1 H'
  at_ : ∃ acc, H' D = some (.lst acc) ∧ acc.length = i ∧ ∀ j y, acc[j]? = some y → R j y H'
theorem LcInv.start {H1 : Hp} {D : Addr} {R : Nat → V → Hp → Prop} (hD : H1 D = none) : LcInv pa H1 D R 0 (upd H1 D (.lst [])) := ⟨Kp.new hD, [], upd_same, rfl, fun j y e => by simp at e⟩
theorem LcInv.step {H1 H2 H4 : Hp} {D : Addr} {R : Nat → V → Hp → Prop} {i : Nat} {y : V} [S : ∀ i, Stb pa (R i)] [L : ∀ i, StbL (R i)] (hD : H1 D = none) (hp : PotOk pa H1) (w : LcInv pa H1 D R i H2) (k : Kp pa H2 H4) (hy : R i y H4) (hi : i < 100000) :
    ∃ acc, H4 D = some (.lst acc) ∧ acc.length < sizeLine ∧ LcInv pa H1 D R (i + 1) (upd H4 D (.lst (acc ++ [y]))) := by
  obtain ⟨acc, hacc, hl, hr⟩ := w.at_
  have hD4 : H4 D = some (.lst acc) := k.ne hacc (hp.ne hD)
  have up : ∀ b o, H4 b = some o → b ≠ D → upd H4 D (.lst (acc ++ [y])) b = some o := fun b o e n => by rw [upd_ne n]; exact e
  refine ⟨acc, hD4, smallLt (by omega), (w.kp.trans k).mut hD, acc ++ [y], upd_same, by simp [hl], fun j z e => ?_⟩
  by_cases hj : j < acc.length
  · rw [List.getElem?_append_left hj] at e
    exact (L j).st z H4 _ D acc hD4 up ((S j).st _ _ _ k (hr j z e))
  · have e2 : j = i := by
      have := (List.getElem?_eq_some_iff.mp e).1
      simp at this
      omega
    subst e2
    rw [← hl, List.getElem?_append_right (Nat.le_refl _)] at e
    simp at e
    subst e
    exact (L j).st _ H4 _ D acc hD4 up hy
theorem LcInv.done {H1 H' : Hp} {D : Addr} {R : Nat → V → Hp → Prop} {i : Nat} (hD : H D = none) (w : LcInv pa H1 D R i H') : NL H (Each i R) (.ref D) H' := by
  obtain ⟨acc, hacc, hl, hr⟩ := w.at_
  exact ⟨D, acc, rfl, hD, hacc, hl, hr⟩
/-- [elt for x in a list] -/
theorem ev_lcL (i : Nat) {x : Str} {px : Pos} {scope : Scope} (xs : List V) (R : Nat → V → Hp → Prop) [S : ∀ i, Stb pa (R i)] [L : ∀ i, StbL (R i)] (hi : Ev pa X iter σ H Pa) (hp : PotOk pa H) (hlen : xs.length ≤ 100000)
    (h0 : ∀ v H', Kp pa H H' → Pa v H' → ∃ a, v = .ref a ∧ ∀ H'', Kp pa H' H'' → SqL X.K H'' a xs)
    (he : ∀ n w H', xs[n]? = some w → Kp pa H H' → InBlk pa X scope elt ((σ.set i none).set i (some w)) H' (R n))
    (hx : X.N[i]? = some x := by rfl) (hN : X.N.Nodup := by assumption) (hc : X.calm = true := by rfl)
    (ok : BlkOk X.N X.env.scope scope [(x, i)] := by exact blkOk_by (by kernel_rfl))
    (hg : ∀ (s : Shared) (H : Hp) (C : Addr) (cl : List (Str × Addr)) (fp : List Addr), PG (X.blk s H scope (compEnvC scope cl C X.env) fp) (.Name x px) (gName i) := by intro _ _ _ _ _; exact pg_name (by assumption) rfl (Or.inl rfl))
    (hs : ∀ x, foldedSetIterable iter X.env x = pure x := by intro _; rfl) :
    Ev pa X (.ListComp elt [⟨.Name x px, iter, [], 0⟩] scope pos) σ H (NL H (Each xs.length R)) := by
  refine Ev.of (pe_lc (own := [(x, i)]) (g := gName i) (tt := tYes) (te := tBlk pa X scope elt) hc hN (pi_list hi) ok hg (fun _ _ _ _ _ => pts_nil) (fun s H0 C cl fp => tBlk_ok s H0 C cl fp) hs) fun H1 Q k q => ⟨rfl, k, fun v H2 k2 p => ?_⟩
  obtain ⟨a, e, hsq⟩ := h0 v H2 (k.trans k2) p
  refine ⟨a, e, ⟨xs, hsq H2 (Kp.refl _)⟩, fun D hD => ?_⟩
  have hp2 : PotOk pa H2 := hp.at (k.trans k2)
  refine lc_list (K := X.K) (a := a) (xs := xs) (g := gName i) (tt := tYes) (te := tBlk pa X scope elt) (vs := [i]) (LcInv pa H2 D R) (LcInv.start hD) (fun n H' _ w => hsq H' w.kp) (fun n y H' hy w => ?_) (fun H' w => q _ _ (k2.trans w.kp) (w.done ((k.trans k2).free hD)))
  refine And.intro (by show (((σ.set i none).set i (some y)).set i none) = σ.set i none; simp) ?_
  refine ⟨R n, he n y H' hy (((k.trans k2)).trans w.kp), fun z H4 k4 hz => ?_⟩
  have hn : n < xs.length := (List.getElem?_eq_some_iff.mp hy).1
  exact w.step hD hp2 k4 hz (by omega)
/-- [elt for x in range(lo, hi)] by range(n) -/
theorem ev_lcR (i : Nat) {x : Str} {px pr pc : Pos} {scope : Scope} {a : Expr} {z : Int} (R : Nat → V → Hp → Prop) [S : ∀ i, Stb pa (R i)] [L : ∀ i, StbL (R i)] (hr : X.mg "range" = none) (ha : Ev pa X a σ H (Is (.int z))) (hz : z ≤ 100000) (hz0 : -(2 ^ 62) ≤ z) (hp : PotOk pa H)
    (he : ∀ (n : Nat) H', n < z.toNat → Kp pa H H' → InBlk pa X scope elt ((σ.set i none).set i (some (.int (n : Nat)))) H' (R n))
    (hx : X.N[i]? = some x := by rfl) (hN : X.N.Nodup := by assumption) (hc : X.calm = true := by rfl)
    (ok : BlkOk X.N X.env.scope scope [(x, i)] := by exact blkOk_by (by kernel_rfl))
    (hg : ∀ (s : Shared) (H : Hp) (C : Addr) (cl : List (Str × Addr)) (fp : List Addr), PG (X.blk s H scope (compEnvC scope cl C X.env) fp) (.Name x px) (gName i) := by intro _ _ _ _ _; exact pg_name (by assumption) rfl (Or.inl rfl))
    (hgr : Gl X "range" := by rfl) (hsa : starEach [a] X.env = (false, eval a X.env) :: starEach [] X.env := by rfl) (hsr : starEach [a] X.env = [(false, eval a X.env)] := by rfl)
    (hs : ∀ x, foldedSetIterable (.Call (.Name "range" pr) [a] [] pc) X.env x = pure x := by intro _; rfl) :
    Ev pa X (.ListComp elt [⟨.Name x px, .Call (.Name "range" pr) [a] [] pc, [], 0⟩] scope pos) σ H (NL H (Each z.toNat R)) := by
  refine Ev.of (pe_lc (own := [(x, i)]) (g := gName i) (tt := tYes) (te := tBlk pa X scope elt) hc hN (pi_range1 hgr hr (eva1 ha hsa) hsr) ok hg (fun _ _ _ _ _ => pts_nil) (fun s H0 C cl fp => tBlk_ok s H0 C cl fp) hs) fun H1 Q k q => ⟨rfl, k, fun vs H2 k2 ⟨v, e, p⟩ => ?_⟩
  refine ⟨z, by rw [e, show v = V.int z from p], hz0, by omega, fun D hD => ?_⟩
  have hp2 : PotOk pa H2 := hp.at (k.trans k2)
  refine lc_range (lo := 0) (n := z.toNat) (g := gName i) (tt := tYes) (te := tBlk pa X scope elt) (vs := [i]) (LcInv pa H2 D R) (LcInv.start hD) (fun n H' hn w => ?_) (fun H' w => q _ _ (k2.trans w.kp) (w.done ((k.trans k2).free hD)))
  rw [show ((0 : Int) + (n : Nat)) = ((n : Nat) : Int) by omega]
  refine And.intro (by show (((σ.set i none).set i (some (.int (n : Nat)))).set i none) = σ.set i none; simp) ?_
  refine ⟨R n, he n H' hn (((k.trans k2)).trans w.kp), fun z' H4 k4 hz' => ?_⟩
  exact w.step hD hp2 k4 hz' (by omega)
end
end RR
-- RE
namespace RR
open PySem PySem.Spec PyProof.Rows L2

section
variable {X : Cx} {pa : Option Addr} {σ : L2.St} {H H' : Hp} {elt iter a b : Expr} {pos : Pos} {P Pa Pb : V → Hp → Prop}
/-- [elt for x in range(lo, hi)] -/
theorem ev_lcR2 (i : Nat) {x : Str} {px pr pc : Pos} {scope : Scope} {lo hi : Int} (R : Nat → V → Hp → Prop) [S : ∀ i, Stb pa (R i)] [L : ∀ i, StbL (R i)] (hr : X.mg "range" = none) (ha : Ev pa X a σ H (Is (.int lo))) (hb : Ev pa X b σ H (Is (.int hi)))
    (hz : (-(2 ^ 62) ≤ lo ∧ lo < 2 ^ 62 ∧ -(2 ^ 62) ≤ hi ∧ hi < 2 ^ 62)) (hz1 : hi - lo ≤ 100000) (hp : PotOk pa H)
    (he : ∀ (n : Nat) H', n < (hi - lo).toNat → Kp pa H H' → InBlk pa X scope elt ((σ.set i none).set i (some (.int (lo + (n : Nat))))) H' (R n))
    (hx : X.N[i]? = some x := by rfl) (hN : X.N.Nodup := by assumption) (hc : X.calm = true := by rfl)
    (ok : BlkOk X.N X.env.scope scope [(x, i)] := by exact blkOk_by (by kernel_rfl))
    (hg : ∀ (s : Shared) (H : Hp) (C : Addr) (cl : List (Str × Addr)) (fp : List Addr), PG (X.blk s H scope (compEnvC scope cl C X.env) fp) (.Name x px) (gName i) := by intro _ _ _ _ _; exact pg_name (by assumption) rfl (Or.inl rfl))
    (hgr : Gl X "range" := by rfl) (hsa : starEach [a, b] X.env = (false, eval a X.env) :: starEach [b] X.env := by rfl) (hsb : starEach [b] X.env = (false, eval b X.env) :: starEach [] X.env := by rfl)
    (hs1 : starEach [a, b] X.env = [(false, eval a X.env), (false, eval b X.env)] := by rfl) (hs2 : starEach [b] X.env = [(false, eval b X.env)] := by rfl)
    (hs : ∀ x, foldedSetIterable (.Call (.Name "range" pr) [a, b] [] pc) X.env x = pure x := by intro _; rfl) :
    Ev pa X (.ListComp elt [⟨.Name x px, .Call (.Name "range" pr) [a, b] [] pc, [], 0⟩] scope pos) σ H (NL H (Each (hi - lo).toNat R)) := by
  refine Ev.of (pe_lc (own := [(x, i)]) (g := gName i) (tt := tYes) (te := tBlk pa X scope elt) hc hN (pi_range2 hgr hr (eva2 ha hb hsa hsb) hs1 hs2) ok hg (fun _ _ _ _ _ => pts_nil) (fun s H0 C cl fp => tBlk_ok s H0 C cl fp) hs) fun H1 Q k q => ⟨rfl, k, fun vs H2 k2 ⟨v, w, e, p, p'⟩ => ?_⟩
  refine ⟨lo, hi, by rw [e, show v = V.int lo from p, show w = V.int hi from p'], hz, fun D hD => ?_⟩
  have hp2 : PotOk pa H2 := hp.at (k.trans k2)
  refine lc_range (lo := lo) (n := (hi - lo).toNat) (g := gName i) (tt := tYes) (te := tBlk pa X scope elt) (vs := [i]) (LcInv pa H2 D R) (LcInv.start hD) (fun n H' hn w => ?_) (fun H' w => q _ _ (k2.trans w.kp) (w.done ((k.trans k2).free hD)))
  refine And.intro (by show (((σ.set i none).set i (some (.int (lo + (n : Nat))))).set i none) = σ.set i none; simp) ?_
  refine ⟨R n, he n H' hn (((k.trans k2)).trans w.kp), fun z' H4 k4 hz' => ?_⟩
  exact w.step hD hp2 k4 hz' (by omega)

/-- the turns of a comprehension over zip -/
theorem lc_zip {K : PySem.W.Frag} {a b : Addr} {xs ys : List V} {g : TG} {tt : TT} {te : TE} {vs : List Nat} {σ : L2.St} {H1 : Hp} {D : Addr} {Qd : Hp → Prop} (hl : xs.length = ys.length) (Pv : Nat → Hp → Prop) (h0 : Pv 0 (upd H1 D (.lst [])))
    (hq : ∀ i H, i ≤ xs.length → Pv i H → SqL K H a xs ∧ SqL K H b ys)
    (hs : ∀ i x y T H, xs[i]? = some x → ys[i]? = some y → Pv i H → H T = none → g (.ref T) (wipe σ vs) (upd H T (.tup [x, y])) fun σ2 H2 => wipe σ2 vs = wipe σ vs ∧ tt σ2 H2 fun b H3 =>
      if b = true then te σ2 H3 fun y H4 => ∃ acc, H4 D = some (.lst acc) ∧ acc.length < sizeLine ∧ Pv (i + 1) (upd H4 D (.lst (acc ++ [y]))) else Pv (i + 1) H3) (hd : ∀ H, Pv xs.length H → Qd H) :
    ∃ W : Nat → Nat → Hp → Prop, (∃ m, W 0 m (upd H1 D (.lst []))) ∧ ∀ i m H, W i m H →
      ((Itz K a b).stop i H ∧ Qd H) ∨ ((Itz K a b).go i H ∧ ∃ Nx : Hp → Prop, (∀ H', Nx H' → ∃ m', m' < m ∧ W (i + 1) m' H') ∧ ∀ x H', (Itz K a b).yld i H x H' → g x (wipe σ vs) H' fun σ2 H2 => wipe σ2 vs = wipe σ vs ∧ tt σ2 H2 fun b H3 =>
        if b = true then te σ2 H3 fun y H4 => ∃ acc, H4 D = some (.lst acc) ∧ acc.length < sizeLine ∧ Nx (upd H4 D (.lst (acc ++ [y]))) else Nx H3) := by
  refine ⟨fun i m H => m = xs.length - i ∧ i ≤ xs.length ∧ Pv i H, ⟨xs.length, by simp, Nat.zero_le _, h0⟩, ?_⟩
  rintro i m H ⟨rfl, hi, p⟩
  obtain ⟨qx, qy⟩ := hq i H hi p
  by_cases hlt : i < xs.length
  · have hx : xs[i]? = some xs[i] := List.getElem?_eq_getElem hlt
    have hlt2 : i < ys.length := by omega
    have hy : ys[i]? = some ys[i] := List.getElem?_eq_getElem hlt2
    refine .inr ⟨⟨xs, ys, _, _, qx, qy, hx, hy⟩, Pv (i + 1), fun H' p' => ⟨xs.length - (i + 1), by omega, rfl, hlt, p'⟩, fun v H' y => ?_⟩
    obtain ⟨T, x', y', rfl, hT, rfl, f1, f2⟩ := y
    exact hs i x' y' T H (f1 xs qx) (f2 ys qy) p hT
  · have e : i = xs.length := by omega
    subst e
    exact .inl ⟨⟨xs, ys, qx, qy, Or.inl (Nat.le_refl _)⟩, hd H p⟩
/-- [elt for x, y in zip(a, b)] -/
theorem ev_lcZ (i j : Nat) {x y : Str} {px py pt pz pc : Pos} {kt} {scope : Scope} (xs ys : List V) (R : Nat → V → Hp → Prop) [S : ∀ i, Stb pa (R i)] [L : ∀ i, StbL (R i)] (hz : X.mg "zip" = none) (ha : Ev pa X a σ H Pa) (hb : Ev pa X b σ H Pb) [Sa : Stb pa Pa] (hp : PotOk pa H) (hlen : xs.length ≤ 100000) (hl : xs.length = ys.length)
    (h0 : ∀ v w H', Kp pa H H' → Pa v H' → Pb w H' → ∃ a b, v = .ref a ∧ w = .ref b ∧ ∀ H'', Kp pa H' H'' → SqL X.K H'' a xs ∧ SqL X.K H'' b ys)
    (he : ∀ n u w H', xs[n]? = some u → ys[n]? = some w → Kp pa H H' → (∀ v w H'', Kp pa H H'' → Kp pa H'' H' → Pa v H'' → Pb w H'' → True) → InBlk pa X scope elt ((((σ.set j none).set i none).set i (some u)).set j (some w)) H' (R n))
    (hx : X.N[i]? = some x := by rfl) (hy : X.N[j]? = some y := by rfl) (hij : i ≠ j := by decide) (hN : X.N.Nodup := by assumption) (hc : X.calm = true := by rfl)
    (ok : BlkOk X.N X.env.scope scope [(x, i), (y, j)] := by exact blkOk_by (by kernel_rfl))
    (hg : ∀ (s : Shared) (H : Hp) (C : Addr) (cl : List (Str × Addr)) (fp : List Addr), PG (X.blk s H scope (compEnvC scope cl C X.env) fp) (.Tuple [.Name x px, .Name y py] kt pt) (gTup X.K 2 (gCons (gName i) (gCons (gName j) gNil))) := by intro _ _ _ _ _; exact pg_tup rfl (pgs_cons (pg_name (by assumption) rfl (Or.inl rfl)) (pgs_cons (pg_name (by assumption) rfl (Or.inl rfl)) pgs_nil)))
    (hgr : Gl X "zip" := by rfl) (hsa : starEach [a, b] X.env = (false, eval a X.env) :: starEach [b] X.env := by rfl) (hsb : starEach [b] X.env = (false, eval b X.env) :: starEach [] X.env := by rfl) (hpl : (backTo pc (starEach [b] X.env)).any (·.1) = false := by rfl)
    (hs : ∀ x, foldedSetIterable (.Call (.Name "zip" pz) [a, b] [] pc) X.env x = pure x := by intro _; rfl) :
    Ev pa X (.ListComp elt [⟨.Tuple [.Name x px, .Name y py] kt pt, .Call (.Name "zip" pz) [a, b] [] pc, [], 0⟩] scope pos) σ H (NL H (Each xs.length R)) := by
  refine Ev.of (pe_lc (own := [(x, i), (y, j)]) (g := gTup X.K 2 (gCons (gName i) (gCons (gName j) gNil))) (tt := tYes) (te := tBlk pa X scope elt) hc hN (pi_zip hgr hz (eva2 ha hb hsa hsb) hsa hpl) ok hg (fun _ _ _ _ _ => pts_nil) (fun s H0 C cl fp => tBlk_ok s H0 C cl fp) hs) fun H1 Q k q => ⟨rfl, k, fun vs H2 k2 ⟨v, w, e, p, p'⟩ => ?_⟩
  obtain ⟨av, bv, e1, e2, hsq⟩ := h0 v w H2 (k.trans k2) p p'
  refine ⟨av, bv, xs, ys, by rw [e, e1, e2], (hsq H2 (Kp.refl _)).1, (hsq H2 (Kp.refl _)).2, fun D hD => ?_⟩
  have hp2 : PotOk pa H2 := hp.at (k.trans k2)
  refine lc_zip (K := X.K) (a := av) (b := bv) (xs := xs) (ys := ys) (g := gTup X.K 2 (gCons (gName i) (gCons (gName j) gNil))) (tt := tYes) (te := tBlk pa X scope elt) (vs := [i, j]) hl (LcInv pa H2 D R) (LcInv.start hD) (fun n H' _ w => hsq H' w.kp) (fun n u w T H' hu hw wi hT => ?_) (fun H' w => q _ _ (k2.trans w.kp) (w.done ((k.trans k2).free hD)))
  have hTD : T ≠ D := fun z => by
    obtain ⟨acc, h1, _⟩ := wi.at_
    rw [z, h1] at hT
    cases hT
  have wi' : LcInv pa H2 D R n (upd H' T (.tup [u, w])) := by
    obtain ⟨acc, h1, l1, r1⟩ := wi.at_
    exact ⟨wi.kp.trans (Kp.new hT), acc, by rw [upd_ne hTD.symm]; exact h1, l1, fun j y e => (S j).st _ _ _ (Kp.new hT) (r1 j y e)⟩
  refine ⟨T, [u, w], rfl, SqT.of upd_same, rfl, u, [w], rfl, w, [], rfl, rfl, ?_⟩
  refine And.intro ?_ ?_
  · show ((((((σ.set j none).set i none).set i (some u)).set j (some w)).set j none).set i none) = (σ.set j none).set i none
    simp [List.set_comm _ _ hij]
  refine ⟨R n, he n u w (upd H' T (.tup [u, w])) hu hw (((k.trans k2)).trans wi'.kp) (fun _ _ _ _ _ _ _ => trivial), fun z' H4 k4 hz' => ?_⟩
  have hn : n < xs.length := (List.getElem?_eq_some_iff.mp hu).1
  exact wi'.step hD hp2 k4 hz' (by omega)
def tBlkT (pa : Option Addr) (X : Cx) (scope : Scope) (c : Expr) : TT := fun σ H Q => ∃ k, (∀ (s : Shared) (H0 : Hp) (C : Addr) (cl : List (Str × Addr)) (fp : List Addr), Eb pa (X.blk s H0 scope (compEnvC scope cl C X.env) fp) c σ H k) ∧ ∀ H', Kp pa H H' → Q k H'
theorem tBlkT_ok {scope : Scope} {c : Expr} (s : Shared) (H0 : Hp) (C : Addr) (cl : List (Str × Addr)) (fp : List Addr) : PT (X.blk s H0 scope (compEnvC scope cl C X.env) fp) c (tBlkT pa X scope c) :=
  ⟨fun pins s1 σ H Q I ⟨k, h, q⟩ => (h s H0 C cl fp).run pins s1 σ H Q I ⟨rfl, Kp.refl _, fun v H2 k2 e => by subst e; exact q H2 k2⟩⟩
/-- the places (one more than each) at which a test holds -/
def kept (t : Nat → Bool) : Nat → List V
  | 0 => []
  | n + 1 => if t n then kept t n ++ [.int ((n : Nat) + 1 : Int)] else kept t n
theorem kept_succ (t : Nat → Bool) (n : Nat) : kept t (n + 1) = if t n then kept t n ++ [.int ((n : Nat) + 1 : Int)] else kept t n := rfl
/-- [x + 1 for x in range(n) if t] -/
theorem ev_lcIf (i : Nat) {x : Str} {px pr pc : Pos} {scope : Scope} {c : Expr} {z : Int} (t : Nat → Bool) (hr : X.mg "range" = none) (ha : Ev pa X a σ H (Is (.int z))) (hz : z ≤ 100000) (hz0 : -(2 ^ 62) ≤ z) (hp : PotOk pa H)
    (ht : ∀ (n : Nat) H', n < z.toNat → Kp pa H H' → (∀ (s : Shared) (H0 : Hp) (C : Addr) (cl : List (Str × Addr)) (fp : List Addr), Eb pa (X.blk s H0 scope (compEnvC scope cl C X.env) fp) c ((σ.set i none).set i (some (.int (n : Nat)))) H' (t n)))
    (he : ∀ (n : Nat) H', n < z.toNat → Kp pa H H' → InBlk pa X scope elt ((σ.set i none).set i (some (.int (n : Nat)))) H' (Is (.int ((n : Nat) + 1 : Int))))
    (hx : X.N[i]? = some x := by rfl) (hN : X.N.Nodup := by assumption) (hc : X.calm = true := by rfl)
    (ok : BlkOk X.N X.env.scope scope [(x, i)] := by exact blkOk_by (by kernel_rfl))
    (hg : ∀ (s : Shared) (H : Hp) (C : Addr) (cl : List (Str × Addr)) (fp : List Addr), PG (X.blk s H scope (compEnvC scope cl C X.env) fp) (.Name x px) (gName i) := by intro _ _ _ _ _; exact pg_name (by assumption) rfl (Or.inl rfl))
    (hgr : Gl X "range" := by rfl) (hsa : starEach [a] X.env = (false, eval a X.env) :: starEach [] X.env := by rfl) (hsr : starEach [a] X.env = [(false, eval a X.env)] := by rfl)
    (hs : ∀ x, foldedSetIterable (.Call (.Name "range" pr) [a] [] pc) X.env x = pure x := by intro _; rfl) :
    Ev pa X (.ListComp elt [⟨.Name x px, .Call (.Name "range" pr) [a] [] pc, [c], 0⟩] scope pos) σ H (NL H (fun xs _ => xs = kept t z.toNat)) := by
  refine Ev.of (pe_lc (own := [(x, i)]) (g := gName i) (tt := tBlkT pa X scope c) (te := tBlk pa X scope elt) hc hN (pi_range1 hgr hr (eva1 ha hsa) hsr) ok hg (fun s H0 C cl fp => pts_one (tBlkT_ok s H0 C cl fp)) (fun s H0 C cl fp => tBlk_ok s H0 C cl fp) hs) fun H1 Q k q => ⟨rfl, k, fun vs H2 k2 ⟨v, e, p⟩ => ?_⟩
  refine ⟨z, by rw [e, show v = V.int z from p], hz0, by omega, fun D hD => ?_⟩
  have hp2 : PotOk pa H2 := hp.at (k.trans k2)
  have klen : ∀ n, (kept t n).length ≤ n := fun n => by
    induction n with
    | zero => exact Nat.le_refl _
    | succ n ih =>
      unfold kept
      split
      · rw [List.length_append]; simp; omega
      · omega
  refine lc_range (lo := 0) (n := z.toNat) (g := gName i) (tt := tBlkT pa X scope c) (te := tBlk pa X scope elt) (vs := [i]) (fun n H' => Kp pa H2 H' ∧ H' D = some (.lst (kept t n))) ⟨Kp.new hD, upd_same⟩ (fun n H' hn w => ?_)
    (fun H' w => q _ _ (k2.trans w.1) ⟨D, _, rfl, (k.trans k2).free hD, w.2, rfl⟩)
  rw [show ((0 : Int) + (n : Nat)) = ((n : Nat) : Int) by omega]
  refine And.intro (by show (((σ.set i none).set i (some (.int (n : Nat)))).set i none) = σ.set i none; simp) ?_
  refine ⟨t n, ht n H' hn ((k.trans k2).trans w.1), fun H3 k3 => ?_⟩
  have hD3 : H3 D = some (.lst (kept t n)) := k3.ne w.2 (hp2.ne hD)
  cases htn : t n with
  | false =>
    refine iteF ⟨w.1.trans k3, ?_⟩
    rw [hD3, kept_succ, htn]
    rfl
  | true =>
    refine iteT ⟨_, he n H3 hn (((k.trans k2).trans w.1).trans k3), fun y H4 k4 hy => ?_⟩
    have hD4 : H4 D = some (.lst (kept t n)) := k4.ne hD3 (hp2.ne hD)
    have hk := klen n
    refine ⟨_, hD4, smallLt (by omega), ((w.1.trans k3).trans k4).mut hD, ?_⟩
    rw [upd_same, show y = _ from hy]
    rw [kept_succ, htn]
    rfl
end

/-! ### promises -/
/-- what a def without draws promises: S of the arguments, the heap and what is said of the answer -/
abbrev Pm := List V → Hp → (V → Hp → Prop) → Prop
def spN (S : Pm) : Sp := fun vs H Q _ => ∃ Po, S vs H Po ∧ ∀ v H', Kp none H H' → Po v H' → Q v H'
/-- .. a def that draws from the pot at a -/
def spD (S : Addr → Pm) : Sp := fun vs H Q _ => ∃ a Po, PotOk (some a) H ∧ S a vs H Po ∧ ∀ v H', Kp (some a) H H' → Po v H' → Q v H'
/-- a callable name of the module -/
structure Cal (P : Program) (w : World) (K : PySem.W.Frag) (mg : Str → Option Value) (base : Heap) (x : Str) (k : Nat) (dvs : List V) (sp : Sp) : Prop where
  ex : ∃ f fd ps ds, FnOk P w K mg base CX0 k f fd ps sp ∧ mg x = some (.ref f) ∧ PySem.W.keepIn K (.ref f) = true ∧ Binds K fd ps ds ∧ Vals dvs ds
theorem Cal.mono {P : Program} {w : World} {K : PySem.W.Frag} {mg : Str → Option Value} {base : Heap} {x : Str} {j k : Nat} {dvs : List V} {sp : Sp} (c : Cal P w K mg base x j dvs sp) (h : j ≤ k) : Cal P w K mg base x k dvs sp := by
  obtain ⟨f, fd, ps, ds, F, g, kp, b, d⟩ := c.ex
  exact ⟨f, fd, ps, ds, F.mono h, g, kp, b, d⟩
section
variable {X : Cx} {pa : Option Addr} {σ : L2.St} {H : Hp} {e : Expr} {es : List Expr} {P : V → Hp → Prop} {R : List V → Hp → Prop} {x : Str} {k : Nat} {dvs : List V} {p pos : Pos}
theorem ev_call {sp : Sp} (c : Cal X.prog X.w X.K X.mg X.base x k dvs sp) (hr : Room k X.A) (ha : EvA pa X (e :: es) σ H R)
    (h : ∀ vs H1 Q, Kp pa H H1 → R vs H1 → (∀ v H2, Kp pa H1 H2 → P v H2 → Q v H2) → sp (vs ++ dvs) H1 Q E0) (hg : Gl X x := by rfl) (hdb : (x == ("__debug__" : Str)) = false := by decide)
    (he : starEach (e :: es) X.env = (false, eval e X.env) :: starEach es X.env := by rfl) (hpl : (backTo pos (starEach es X.env)).any (·.1) = false := by rfl) : Ev pa X (.Call (.Name x p) (e :: es) [] pos) σ H P := by
  obtain ⟨f, fd, ps, ds, F, g, kp, b, d⟩ := c.ex
  exact Ev.of (pe_call F hr hg g kp b d pass0 ha hdb he hpl) fun H1 Q k q => ⟨rfl, k, fun vs H2 k2 r => h vs H2 Q (k.trans k2) r fun v H3 k3 p => q v H3 (k2.trans k3) p⟩
/-- the call of a def without draws -/
theorem ev_cN {S : Pm} (c : Cal X.prog X.w X.K X.mg X.base x k dvs (spN S)) (hr : Room k X.A) (ha : EvA pa X (e :: es) σ H R)
    (h : ∀ vs H1, Kp pa H H1 → R vs H1 → ∃ Po, S (vs ++ dvs) H1 Po ∧ ∀ v H2, Kp none H1 H2 → Po v H2 → P v H2) (hg : Gl X x := by rfl) (hdb : (x == ("__debug__" : Str)) = false := by decide)
    (he : starEach (e :: es) X.env = (false, eval e X.env) :: starEach es X.env := by rfl) (hpl : (backTo pos (starEach es X.env)).any (·.1) = false := by rfl) : Ev pa X (.Call (.Name x p) (e :: es) [] pos) σ H P :=
  ev_call c hr ha (fun vs H1 Q k r q => by
    obtain ⟨Po, s, hp⟩ := h vs H1 k r
    exact ⟨Po, s, fun v H' k' p => q v H' k'.ofN (hp v H' k' p)⟩) hg hdb he hpl
/-- the call of a def that draws -/
theorem ev_cD {a : Addr} {S : Addr → Pm} (c : Cal X.prog X.w X.K X.mg X.base x k dvs (spD S)) (hr : Room k X.A) (hp : PotOk (some a) H) (ha : EvA (some a) X (e :: es) σ H R)
    (h : ∀ vs H1, Kp (some a) H H1 → R vs H1 → ∃ Po, S a (vs ++ dvs) H1 Po ∧ ∀ v H2, Kp (some a) H1 H2 → Po v H2 → P v H2) (hg : Gl X x := by rfl) (hdb : (x == ("__debug__" : Str)) = false := by decide)
    (he : starEach (e :: es) X.env = (false, eval e X.env) :: starEach es X.env := by rfl) (hpl : (backTo pos (starEach es X.env)).any (·.1) = false := by rfl) : Ev (some a) X (.Call (.Name x p) (e :: es) [] pos) σ H P :=
  ev_call c hr ha (fun vs H1 Q k r q => by
    obtain ⟨Po, s, hpo⟩ := h vs H1 k r
    exact ⟨a, Po, hp.at k, s, fun v H' k' p => q v H' k' (hpo v H' k' p)⟩) hg hdb he hpl
end

/-! ### defs: where each stands, what it is -/
structure DR where
  adr : PySem.W.Frag → Addr
  name : Str
  qual : Str
  params : Arguments
  body : List Stmt
  scope : Scope
  dvs : List V := []
def DR.look (K : PySem.W.Frag) (d : DR) : He.FnW := match K.lookup (d.adr K) with
  | some ⟨_, _, .func fd, _⟩ => some (fd.name, fd.qualname, fd.params, fd.body, fd.scope, fd.globals, fd.closure, fd.builtins)
  | _ => none
def DR.val (d : DR) : He.FnW := some (d.name, d.qual, d.params, .stmts d.body, d.scope, mainGlobals, [], builtinsNs)
def DR.ok (K : PySem.W.Frag) (d : DR) : Bool := PySem.W.keepIn K (.ref (d.adr K)) && (match K.lookup (d.adr K) with
  | some ⟨_, _, .func fd, _⟩ => PySem.W.codeIn K fd.code d.qual && He.dflB K fd.defaults d.dvs
  | _ => false)
abbrev DefIn (K : PySem.W.Frag) (d : DR) : Prop := ∃ fd, FunD K d.name d.qual d.params d.body d.scope d.dvs [] (d.adr K) fd
theorem DR.in_ {K : PySem.W.Frag} {d : DR} (e : d.look K = d.val) (c : d.ok K = true) : DefIn K d := by
  obtain ⟨kp, c2⟩ := Bool.and_eq_true_iff.mp c
  unfold DR.look at e
  cases q : K.lookup (d.adr K) with
  | none =>
    rw [q] at c2
    cases c2
  | some o =>
    obtain ⟨oc, od, dt, osl⟩ := o
    rw [q] at c2 e
    cases dt with
    | func fd =>
      obtain ⟨n1, n2, n3, n4, n5, n6, n7, n8, n9, n10, n11, n12, n13, n14, n15⟩ := fd
      have e2 : (some (n1, n2, n3, n4, n5, n6, n7, n15) : He.FnW) = some (d.name, d.qual, d.params, .stmts d.body, d.scope, mainGlobals, [], builtinsNs) := e
      simp only [Option.some.injEq, Prod.mk.injEq] at e2
      obtain ⟨h1, h2, h3, h4, h5, h6, h7, h8⟩ := e2
      subst h1 h2 h3 h4 h5 h6 h7 h8
      obtain ⟨k1, k2⟩ := Bool.and_eq_true_iff.mp (show (PySem.W.codeIn K n13 d.qual && He.dflB K n8 d.dvs) = true from c2)
      exact ⟨_, ⟨oc, od, n8, n9, n10, n11, n12, n13, n14, osl, rfl, q, k1, He.dflB_ok k2, .inl rfl⟩, kp⟩
    | _ => cases c2
/-- the facts of the top, as one Bool and the defs' own data -/
abbrev AlR : Type := Bool × List He.FnW
def obsR (fa : List He.Fa) (ex : List (PySem.W.Frag → Bool)) (fn : List DR) (K : PySem.W.Frag) : AlR := ((fa.all fun f => f.ok K) && ((ex.all fun f => f K) && fn.all fun d => d.ok K), fn.map fun d => d.look K)
def valR (fn : List DR) : AlR := (true, fn.map DR.val)
/-- .. where a place was seen is one bit of a number: far fewer steps than by lists -/
def addNew : List Addr → Nat → List Addr → Nat × List Addr
  | [], m, acc => (m, acc)
  | a :: r, m, acc => match Nat.beq (Nat.land (Nat.shiftRight m a) 1) 1 with
    | true => addNew r m acc
    | false => addNew r (Nat.lor m (Nat.shiftLeft 1 a)) (a :: acc)
def reach (g : Addr → Option Obj) : Nat → Nat → List Addr → List Addr → List Addr
  | 0, _, _, acc => acc
  | n + 1, m, fr, acc => match addNew (fr.flatMap fun a => match g a with
      | some o => He.refsD o
      | none => []) m [] with
    | (m', new) => reach g n m' new (new ++ acc)
/-- what the module's names reach in n steps -/
def asR (g : Addr → Option Obj) (n : Nat) : List Addr := reach g n (Nat.shiftLeft 1 mainGlobals) [mainGlobals] [mainGlobals]
def obsRG (n : Nat) (fa : List He.Fa) (ex : List (PySem.W.Frag → Bool)) (fn : List DR) (g : Addr → Option Obj) : AlR := obsR fa ex fn (He.frG g (asR g n))
def hookR (n : Nat) (fa : List He.Fa) (ex : List (PySem.W.Frag → Bool)) (fn : List DR) : PySem.W.Hook where
  α := AlR
  obs := fun s => obsRG n fa ex fn s.heap.get?
  val := fun _ => valR fn
  says := fun _ h => ∃ K : PySem.W.Frag, K.In h ∧ obsR fa ex fn K = valR fn
  of := fun _ _ e => ⟨_, He.frG_in, e⟩
  keeps := fun _ _ _ ⟨K, hK, c⟩ k => ⟨K, PySem.W.Frag.In.keeps hK k, c⟩
theorem obsRG_eq {n : Nat} {fa : List He.Fa} {ex : List (PySem.W.Frag → Bool)} {fn : List DR} {g : Addr → Option Obj} {s : Shared} (h : ∀ a, g a = s.heap.get? a) : obsRG n fa ex fn g = (hookR n fa ex fn).obs s := by
  have e : g = s.heap.get? := funext h
  rw [e] <;> rfl
section
variable {fa : List He.Fa} {ex : List (PySem.W.Frag → Bool)} {fn : List DR} {K : PySem.W.Frag}
theorem saysB (c : obsR fa ex fn K = valR fn) : (fa.all fun f => f.ok K) = true ∧ (ex.all fun f => f K) = true ∧ (fn.all fun d => d.ok K) = true := by
  have h : ((fa.all fun f => f.ok K) && ((ex.all fun f => f K) && fn.all fun d => d.ok K)) = true := congrArg (fun z : AlR => z.1) c
  obtain ⟨a, b⟩ := Bool.and_eq_true_iff.mp h
  exact ⟨a, Bool.and_eq_true_iff.mp b⟩
theorem says_fa (c : obsR fa ex fn K = valR fn) (i : Nat) {f : He.Fa} (h : fa[i]? = some f := by rfl) : f.ok K = true := List.all_eq_true.mp (saysB c).1 f (List.mem_of_getElem? h)
theorem says_ex (c : obsR fa ex fn K = valR fn) (i : Nat) {f : PySem.W.Frag → Bool} (h : ex[i]? = some f := by rfl) : f K = true := List.all_eq_true.mp (saysB c).2.1 f (List.mem_of_getElem? h)
theorem says_def (c : obsR fa ex fn K = valR fn) (i : Nat) {d : DR} (h : fn[i]? = some d := by rfl) : DefIn K d := by
  have e : fn.map (fun d => d.look K) = fn.map DR.val := congrArg (fun z : AlR => z.2) c
  have e2 : (fn.map fun d => d.look K)[i]? = (fn.map DR.val)[i]? := by rw [e]
  rw [List.getElem?_map, List.getElem?_map, h] at e2
  exact DR.in_ (Option.some.inj e2) (List.all_eq_true.mp (saysB c).2.2 d (List.mem_of_getElem? h))
end
/-- the context of a def's body -/
abbrev bodyX (P : Program) (w : World) (K : PySem.W.Frag) (mg : Str → Option Value) (base : Heap) (N : List Str) (d : DR) (cdv : Value) (A : Around) (outer : List Env) (s : Shared) (H : Hp) (E : XK) : Cx :=
  (cxOf CX0 P w K mg base N d.qual d.scope (d.adr K) cdv A outer s H E).nox
section
variable {P : Program} {w : World} {K : PySem.W.Frag} {mg : Str → Option Value} {base : Heap}
theorem fn_def {d : DR} {fd : FuncData} {N ps : List Str} {k : Nat} {sp : Sp} (F : FunD K d.name d.qual d.params d.body d.scope d.dvs [] (d.adr K) fd) (S : FnScope N ps d.scope) (len : ∀ vs H Q E, sp vs H Q E → vs.length = ps.length)
    (hb : ∀ (cdv : Value) (A : Around) (outer : List Env) (s : Shared) (H : Hp) (vs : List V) (Q : VK) (E : XK), Room k (A.deeper (envOfC d.qual d.scope s.heap.objs.size (d.adr K) cdv)) → sp vs H Q E →
      Ss (bodyX P w K mg base N d cdv A outer s H E) d.body (start N vs) H { nx := fun _ H' => Q .non H', rt := Q }) : FnOk P w K mg base CX0 (k + 1) (d.adr K) fd ps sp :=
  F.ok S len fun cdv A outer s H vs Q E hr h => ⟨_, PSs.nox Ss.pss, hb cdv A outer s H vs Q E hr h⟩
abbrev BindsAs (d : DR) (ps : List Str) : Prop := ∀ (kV doc pm : Value) (an : Option Addr) (cdv ct : Value) (us : List Value), us.length = ps.length → bindArgs (PySem.W.fnOf d.name d.qual d.params d.body d.scope .none kV doc pm an cdv ct) ⟨us, []⟩ = pure (ps.zip us)
/-- a def without defaults, by its body -/
theorem cal_def {d : DR} {N : List Str} {x : Str} {k : Nat} {sp : Sp} (D : DefIn K d) (ps : List Str) (g : mg x = some (.ref (d.adr K))) (S : FnScope N ps d.scope) (h0 : d.dvs = [])
    (bind : BindsAs d ps) (len : ∀ vs H Q E, sp vs H Q E → vs.length = ps.length)
    (hb : ∀ (cdv : Value) (A : Around) (outer : List Env) (s : Shared) (H : Hp) (vs : List V) (Q : VK) (E : XK), Room k (A.deeper (envOfC d.qual d.scope s.heap.objs.size (d.adr K) cdv)) → sp vs H Q E →
      Ss (bodyX P w K mg base N d cdv A outer s H E) d.body (start N vs) H { nx := fun _ H' => Q .non H', rt := Q }) : Cal P w K mg base x (k + 1) [] sp := by
  obtain ⟨fd, F⟩ := D
  have F0 := F
  rw [h0] at F0
  exact ⟨_, fd, ps, [], fn_def F S len hb, g, F.kp, F0.bindsN bind, .nil⟩
/-- .. with a promise of the common form -/
theorem cal_N {d : DR} {N : List Str} {x : Str} {k : Nat} {S : Pm} (D : DefIn K d) (ps : List Str) (g : mg x = some (.ref (d.adr K))) (sc : FnScope N ps d.scope) (h0 : d.dvs = [])
    (bind : BindsAs d ps) (len : ∀ vs H Po, S vs H Po → vs.length = ps.length)
    (hb : ∀ (cdv : Value) (A : Around) (outer : List Env) (s : Shared) (H : Hp) (vs : List V) (Q : VK) (E : XK) (Po : V → Hp → Prop), Room k (A.deeper (envOfC d.qual d.scope s.heap.objs.size (d.adr K) cdv)) → S vs H Po → (∀ v H', Kp none H H' → Po v H' → Q v H') →
      Ss (bodyX P w K mg base N d cdv A outer s H E) d.body (start N vs) H { nx := fun _ H' => Q .non H', rt := Q }) : Cal P w K mg base x (k + 1) [] (spN S) :=
  cal_def D ps g sc h0 bind (fun vs H Q E ⟨Po, h, _⟩ => len vs H Po h) fun cdv A outer s H vs Q E hr ⟨Po, h, q⟩ => hb cdv A outer s H vs Q E Po hr h q
theorem cal_D {d : DR} {N : List Str} {x : Str} {k : Nat} {S : Addr → Pm} (D : DefIn K d) (ps : List Str) (g : mg x = some (.ref (d.adr K))) (sc : FnScope N ps d.scope) (h0 : d.dvs = [])
    (bind : BindsAs d ps) (len : ∀ a vs H Po, S a vs H Po → vs.length = ps.length)
    (hb : ∀ (cdv : Value) (A : Around) (outer : List Env) (s : Shared) (H : Hp) (vs : List V) (Q : VK) (E : XK) (a : Addr) (Po : V → Hp → Prop), Room k (A.deeper (envOfC d.qual d.scope s.heap.objs.size (d.adr K) cdv)) → PotOk (some a) H → S a vs H Po → (∀ v H', Kp (some a) H H' → Po v H' → Q v H') →
      Ss (bodyX P w K mg base N d cdv A outer s H E) d.body (start N vs) H { nx := fun _ H' => Q .non H', rt := Q }) : Cal P w K mg base x (k + 1) [] (spD S) :=
  cal_def D ps g sc h0 bind (fun vs H Q E ⟨a, Po, _, h, _⟩ => len a vs H Po h) fun cdv A outer s H vs Q E hr ⟨a, Po, hp, h, q⟩ => hb cdv A outer s H vs Q E a Po hr hp h q
end
end RR
-- RT
namespace RR
open PySem PySem.Spec PyProof.Rows L2
/-! ### the text by places -/
def top (i : Nat) : Stmt := PySem.Challenge.pw_rootsround_k61_whole_taken_off_and_summe.main.body.getD i (.Pass ⟨0, 0, 0, 0⟩)
/-- a getter's address: what the property of a class holds -/
def gAd (K : PySem.W.Frag) (C : Addr) (f : Str) : Addr := match PySem.W.recIn K (He.ma K C f) "property" with
  | some (.ref g :: _) => g
  | _ => 0
abbrev cR (K : PySem.W.Frag) : Addr := He.ga K "Ratio"
abbrev cRoot (K : PySem.W.Frag) : Addr := He.ga K "Root"
abbrev cKnown (K : PySem.W.Frag) : Addr := He.ga K "Known"
abbrev s_Fis_integer : Stmt := top 15
def d_Fis_integer : DR := ⟨fun K => He.ga K "is_integer", "is_integer", "is_integer", defArgs s_Fis_integer, defBody s_Fis_integer, defScope s_Fis_integer, []⟩
abbrev s_Fis_list : Stmt := top 16
def d_Fis_list : DR := ⟨fun K => He.ga K "is_list", "is_list", "is_list", defArgs s_Fis_list, defBody s_Fis_list, defScope s_Fis_list, []⟩
abbrev s_Fwant_at_most : Stmt := top 17
def d_Fwant_at_most : DR := ⟨fun K => He.ga K "want_at_most", "want_at_most", "want_at_most", defArgs s_Fwant_at_most, defBody s_Fwant_at_most, defScope s_Fwant_at_most, []⟩
abbrev s_Fdigits_of : Stmt := top 20
def d_Fdigits_of : DR := ⟨fun K => He.ga K "digits_of", "digits_of", "digits_of", defArgs s_Fdigits_of, defBody s_Fdigits_of, defScope s_Fdigits_of, []⟩
abbrev s_Fcommon_part : Stmt := top 21
def d_Fcommon_part : DR := ⟨fun K => He.ga K "common_part", "common_part", "common_part", defArgs s_Fcommon_part, defBody s_Fcommon_part, defScope s_Fcommon_part, []⟩
abbrev s_Ftold_pair : Stmt := top 23
def d_Ftold_pair : DR := ⟨fun K => He.ga K "told_pair", "told_pair", "told_pair", defArgs s_Ftold_pair, defBody s_Ftold_pair, defScope s_Ftold_pair, []⟩
abbrev s_Fis_number : Stmt := top 24
def d_Fis_number : DR := ⟨fun K => He.ga K "is_number", "is_number", "is_number", defArgs s_Fis_number, defBody s_Fis_number, defScope s_Fis_number, []⟩
abbrev s_Fratio_of : Stmt := top 25
def d_Fratio_of : DR := ⟨fun K => He.ga K "ratio_of", "ratio_of", "ratio_of", defArgs s_Fratio_of, defBody s_Fratio_of, defScope s_Fratio_of, []⟩
abbrev s_Fwholes : Stmt := top 27
def d_Fwholes : DR := ⟨fun K => He.ga K "wholes", "wholes", "wholes", defArgs s_Fwholes, defBody s_Fwholes, defScope s_Fwholes, []⟩
abbrev s_Fis_poly : Stmt := top 31
def d_Fis_poly : DR := ⟨fun K => He.ga K "is_poly", "is_poly", "is_poly", defArgs s_Fis_poly, defBody s_Fis_poly, defScope s_Fis_poly, []⟩
abbrev s_Ftrimmed : Stmt := top 32
def d_Ftrimmed : DR := ⟨fun K => He.ga K "trimmed", "trimmed", "trimmed", defArgs s_Ftrimmed, defBody s_Ftrimmed, defScope s_Ftrimmed, []⟩
abbrev s_Fwant_poly : Stmt := top 33
def d_Fwant_poly : DR := ⟨fun K => He.ga K "want_poly", "want_poly", "want_poly", defArgs s_Fwant_poly, defBody s_Fwant_poly, defScope s_Fwant_poly, []⟩
abbrev s_Fsum_of : Stmt := top 34
def d_Fsum_of : DR := ⟨fun K => He.ga K "sum_of", "sum_of", "sum_of", defArgs s_Fsum_of, defBody s_Fsum_of, defScope s_Fsum_of, []⟩
abbrev s_Fby_number : Stmt := top 35
def d_Fby_number : DR := ⟨fun K => He.ga K "by_number", "by_number", "by_number", defArgs s_Fby_number, defBody s_Fby_number, defScope s_Fby_number, []⟩
abbrev s_Fless_of : Stmt := top 36
def d_Fless_of : DR := ⟨fun K => He.ga K "less_of", "less_of", "less_of", defArgs s_Fless_of, defBody s_Fless_of, defScope s_Fless_of, []⟩
abbrev s_Fint_product : Stmt := top 37
def d_Fint_product : DR := ⟨fun K => He.ga K "int_product", "int_product", "int_product", defArgs s_Fint_product, defBody s_Fint_product, defScope s_Fint_product, []⟩
abbrev s_Fproduct_of : Stmt := top 38
def d_Fproduct_of : DR := ⟨fun K => He.ga K "product_of", "product_of", "product_of", defArgs s_Fproduct_of, defBody s_Fproduct_of, defScope s_Fproduct_of, []⟩
abbrev s_Fsquare_of : Stmt := top 39
def d_Fsquare_of : DR := ⟨fun K => He.ga K "square_of", "square_of", "square_of", defArgs s_Fsquare_of, defBody s_Fsquare_of, defScope s_Fsquare_of, []⟩
abbrev s_Fslope_of : Stmt := top 40
def d_Fslope_of : DR := ⟨fun K => He.ga K "slope_of", "slope_of", "slope_of", defArgs s_Fslope_of, defBody s_Fslope_of, defScope s_Fslope_of, []⟩
abbrev s_Fplain_row : Stmt := top 42
def d_Fplain_row : DR := ⟨fun K => He.ga K "plain_row", "plain_row", "plain_row", defArgs s_Fplain_row, defBody s_Fplain_row, defScope s_Fplain_row, []⟩
abbrev s_Fint_rest : Stmt := top 43
def d_Fint_rest : DR := ⟨fun K => He.ga K "int_rest", "int_rest", "int_rest", defArgs s_Fint_rest, defBody s_Fint_rest, defScope s_Fint_rest, []⟩
abbrev s_Fint_common : Stmt := top 44
def d_Fint_common : DR := ⟨fun K => He.ga K "int_common", "int_common", "int_common", defArgs s_Fint_common, defBody s_Fint_common, defScope s_Fint_common, []⟩
abbrev s_Fcommon_of : Stmt := top 45
def d_Fcommon_of : DR := ⟨fun K => He.ga K "common_of", "common_of", "common_of", defArgs s_Fcommon_of, defBody s_Fcommon_of, defScope s_Fcommon_of, []⟩
abbrev s_Fis_squared : Stmt := top 46
def d_Fis_squared : DR := ⟨fun K => He.ga K "is_squared", "is_squared", "is_squared", defArgs s_Fis_squared, defBody s_Fis_squared, defScope s_Fis_squared, []⟩
abbrev s_Fpower_of : Stmt := top 49
def d_Fpower_of : DR := ⟨fun K => He.ga K "power_of", "power_of", "power_of", defArgs s_Fpower_of, defBody s_Fpower_of, defScope s_Fpower_of, []⟩
abbrev s_Fwhole_root : Stmt := top 50
def d_Fwhole_root : DR := ⟨fun K => He.ga K "whole_root", "whole_root", "whole_root", defArgs s_Fwhole_root, defBody s_Fwhole_root, defScope s_Fwhole_root, []⟩
abbrev s_Forder_root : Stmt := top 51
def d_Forder_root : DR := ⟨fun K => He.ga K "order_root", "order_root", "order_root", defArgs s_Forder_root, defBody s_Forder_root, defScope s_Forder_root, []⟩
abbrev s_Fsquare_root : Stmt := top 52
def d_Fsquare_root : DR := ⟨fun K => He.ga K "square_root", "square_root", "square_root", defArgs s_Fsquare_root, defBody s_Fsquare_root, defScope s_Fsquare_root, []⟩
abbrev s_Fnumbers_of : Stmt := top 53
def d_Fnumbers_of : DR := ⟨fun K => He.ga K "numbers_of", "numbers_of", "numbers_of", defArgs s_Fnumbers_of, defBody s_Fnumbers_of, defScope s_Fnumbers_of, []⟩
abbrev s_Fright_poly : Stmt := top 54
def d_Fright_poly : DR := ⟨fun K => He.ga K "right_poly", "right_poly", "right_poly", defArgs s_Fright_poly, defBody s_Fright_poly, defScope s_Fright_poly, []⟩
abbrev s_Fwant_root : Stmt := top 57
def d_Fwant_root : DR := ⟨fun K => He.ga K "want_root", "want_root", "want_root", defArgs s_Fwant_root, defBody s_Fwant_root, defScope s_Fwant_root, []⟩
abbrev s_Fwant_short : Stmt := top 60
def d_Fwant_short : DR := ⟨fun K => He.ga K "want_short", "want_short", "want_short", defArgs s_Fwant_short, defBody s_Fwant_short, defScope s_Fwant_short, []⟩
abbrev s_Fpower_sum : Stmt := top 61
def d_Fpower_sum : DR := ⟨fun K => He.ga K "power_sum", "power_sum", "power_sum", defArgs s_Fpower_sum, defBody s_Fpower_sum, defScope s_Fpower_sum, []⟩
abbrev s_Fsummed : Stmt := top 62
def d_Fsummed : DR := ⟨fun K => He.ga K "summed", "summed", "summed", defArgs s_Fsummed, defBody s_Fsummed, defScope s_Fsummed, []⟩
abbrev s_Ftaken_by : Stmt := top 63
def d_Ftaken_by : DR := ⟨fun K => He.ga K "taken_by", "taken_by", "taken_by", defArgs s_Ftaken_by, defBody s_Ftaken_by, defScope s_Ftaken_by, []⟩
abbrev s_Ftaken_off : Stmt := top 64
def d_Ftaken_off : DR := ⟨fun K => He.ga K "taken_off", "taken_off", "taken_off", defArgs s_Ftaken_off, defBody s_Ftaken_off, defScope s_Ftaken_off, []⟩
abbrev s_Fsummed_up : Stmt := top 65
def d_Fsummed_up : DR := ⟨fun K => He.ga K "summed_up", "summed_up", "summed_up", defArgs s_Fsummed_up, defBody s_Fsummed_up, defScope s_Fsummed_up, []⟩
abbrev s_F_law_pot : Stmt := top 67
def d_F_law_pot : DR := ⟨fun K => He.ga K "_law_pot", "_law_pot", "_law_pot", defArgs s_F_law_pot, defBody s_F_law_pot, defScope s_F_law_pot, []⟩
abbrev s_F_law_draw : Stmt := top 68
def d_F_law_draw : DR := ⟨fun K => He.ga K "_law_draw", "_law_draw", "_law_draw", defArgs s_F_law_draw, defBody s_F_law_draw, defScope s_F_law_draw, []⟩
abbrev s_F_law_pick : Stmt := top 69
def d_F_law_pick : DR := ⟨fun K => He.ga K "_law_pick", "_law_pick", "_law_pick", defArgs s_F_law_pick, defBody s_F_law_pick, defScope s_F_law_pick, []⟩
abbrev s_F_law_told : Stmt := top 70
def d_F_law_told : DR := ⟨fun K => He.ga K "_law_told", "_law_told", "_law_told", defArgs s_F_law_told, defBody s_F_law_told, defScope s_F_law_told, []⟩
abbrev s_F_law_sum : Stmt := top 71
def d_F_law_sum : DR := ⟨fun K => He.ga K "_law_sum", "_law_sum", "_law_sum", defArgs s_F_law_sum, defBody s_F_law_sum, defScope s_F_law_sum, []⟩
abbrev s_F_law_by : Stmt := top 72
def d_F_law_by : DR := ⟨fun K => He.ga K "_law_by", "_law_by", "_law_by", defArgs s_F_law_by, defBody s_F_law_by, defScope s_F_law_by, []⟩
abbrev s_F_law_product : Stmt := top 73
def d_F_law_product : DR := ⟨fun K => He.ga K "_law_product", "_law_product", "_law_product", defArgs s_F_law_product, defBody s_F_law_product, defScope s_F_law_product, []⟩
abbrev s_F_law_slope : Stmt := top 74
def d_F_law_slope : DR := ⟨fun K => He.ga K "_law_slope", "_law_slope", "_law_slope", defArgs s_F_law_slope, defBody s_F_law_slope, defScope s_F_law_slope, []⟩
abbrev s_F_law_up : Stmt := top 75
def d_F_law_up : DR := ⟨fun K => He.ga K "_law_up", "_law_up", "_law_up", defArgs s_F_law_up, defBody s_F_law_up, defScope s_F_law_up, []⟩
abbrev s_F_law_taken : Stmt := top 76
def d_F_law_taken : DR := ⟨fun K => He.ga K "_law_taken", "_law_taken", "_law_taken", defArgs s_F_law_taken, defBody s_F_law_taken, defScope s_F_law_taken, []⟩
abbrev s_F_law_made : Stmt := top 77
def d_F_law_made : DR := ⟨fun K => He.ga K "_law_made", "_law_made", "_law_made", defArgs s_F_law_made, defBody s_F_law_made, defScope s_F_law_made, []⟩
abbrev s_F_law_line_made : Stmt := top 78
def d_F_law_line_made : DR := ⟨fun K => He.ga K "_law_line_made", "_law_line_made", "_law_line_made", defArgs s_F_law_line_made, defBody s_F_law_line_made, defScope s_F_law_line_made, []⟩
abbrev s_F_law_never : Stmt := top 79
def d_F_law_never : DR := ⟨fun K => He.ga K "_law_never", "_law_never", "_law_never", defArgs s_F_law_never, defBody s_F_law_never, defScope s_F_law_never, []⟩
abbrev s_F_law_poly : Stmt := top 80
def d_F_law_poly : DR := ⟨fun K => He.ga K "_law_poly", "_law_poly", "_law_poly", defArgs s_F_law_poly, defBody s_F_law_poly, defScope s_F_law_poly, []⟩
abbrev s_F_law_passed : Stmt := top 81
def d_F_law_passed : DR := ⟨fun K => He.ga K "_law_passed", "_law_passed", "_law_passed", defArgs s_F_law_passed, defBody s_F_law_passed, defScope s_F_law_passed, []⟩
abbrev s_F_law_doubled : Stmt := top 82
def d_F_law_doubled : DR := ⟨fun K => He.ga K "_law_doubled", "_law_doubled", "_law_doubled", defArgs s_F_law_doubled, defBody s_F_law_doubled, defScope s_F_law_doubled, []⟩
abbrev s_F_law_root : Stmt := top 83
def d_F_law_root : DR := ⟨fun K => He.ga K "_law_root", "_law_root", "_law_root", defArgs s_F_law_root, defBody s_F_law_root, defScope s_F_law_root, []⟩
abbrev s_F_law_is_told : Stmt := top 84
def d_F_law_is_told : DR := ⟨fun K => He.ga K "_law_is_told", "_law_is_told", "_law_is_told", defArgs s_F_law_is_told, defBody s_F_law_is_told, defScope s_F_law_is_told, []⟩
abbrev s_F_law_one_right : Stmt := top 85
def d_F_law_one_right : DR := ⟨fun K => He.ga K "_law_one_right", "_law_one_right", "_law_one_right", defArgs s_F_law_one_right, defBody s_F_law_one_right, defScope s_F_law_one_right, []⟩
abbrev s_F_law_right : Stmt := top 86
def d_F_law_right : DR := ⟨fun K => He.ga K "_law_right", "_law_right", "_law_right", defArgs s_F_law_right, defBody s_F_law_right, defScope s_F_law_right, []⟩
abbrev s_Flaw : Stmt := top 87
def d_Flaw : DR := ⟨fun K => He.ga K "law", "law", "law", defArgs s_Flaw, defBody s_Flaw, defScope s_Flaw, []⟩
abbrev s_MRatio_init : Stmt := inClass (top 22) 0
def d_MRatio_init : DR := ⟨fun K => He.ma K (He.ga K "Ratio") "__init__", "__init__", "Ratio.__init__", defArgs s_MRatio_init, defBody s_MRatio_init, defScope s_MRatio_init, [.int 1]⟩
abbrev s_MRatio_add : Stmt := inClass (top 22) 6
def d_MRatio_add : DR := ⟨fun K => He.ma K (He.ga K "Ratio") "__add__", "__add__", "Ratio.__add__", defArgs s_MRatio_add, defBody s_MRatio_add, defScope s_MRatio_add, []⟩
abbrev s_MRatio_sub : Stmt := inClass (top 22) 8
def d_MRatio_sub : DR := ⟨fun K => He.ma K (He.ga K "Ratio") "__sub__", "__sub__", "Ratio.__sub__", defArgs s_MRatio_sub, defBody s_MRatio_sub, defScope s_MRatio_sub, []⟩
abbrev s_MRatio_mul : Stmt := inClass (top 22) 10
def d_MRatio_mul : DR := ⟨fun K => He.ma K (He.ga K "Ratio") "__mul__", "__mul__", "Ratio.__mul__", defArgs s_MRatio_mul, defBody s_MRatio_mul, defScope s_MRatio_mul, []⟩
abbrev s_MRatio_over : Stmt := inClass (top 22) 13
def d_MRatio_over : DR := ⟨fun K => He.ma K (He.ga K "Ratio") "over", "over", "Ratio.over", defArgs s_MRatio_over, defBody s_MRatio_over, defScope s_MRatio_over, []⟩
abbrev s_MRatio_eq : Stmt := inClass (top 22) 17
def d_MRatio_eq : DR := ⟨fun K => He.ma K (He.ga K "Ratio") "__eq__", "__eq__", "Ratio.__eq__", defArgs s_MRatio_eq, defBody s_MRatio_eq, defScope s_MRatio_eq, []⟩
abbrev s_MRatio_repr : Stmt := inClass (top 22) 19
def d_MRatio_repr : DR := ⟨fun K => He.ma K (He.ga K "Ratio") "__repr__", "__repr__", "Ratio.__repr__", defArgs s_MRatio_repr, defBody s_MRatio_repr, defScope s_MRatio_repr, []⟩
abbrev s_MRoot_init : Stmt := inClass (top 56) 0
def d_MRoot_init : DR := ⟨fun K => He.ma K (He.ga K "Root") "__init__", "__init__", "Root.__init__", defArgs s_MRoot_init, defBody s_MRoot_init, defScope s_MRoot_init, []⟩
abbrev s_PRatio_top : Stmt := inClass (top 22) 1
def d_PRatio_top : DR := ⟨fun K => gAd K (He.ga K "Ratio") "top", "top", "Ratio.top", defArgs s_PRatio_top, defBody s_PRatio_top, defScope s_PRatio_top, []⟩
abbrev s_PRatio_bottom : Stmt := inClass (top 22) 2
def d_PRatio_bottom : DR := ⟨fun K => gAd K (He.ga K "Ratio") "bottom", "bottom", "Ratio.bottom", defArgs s_PRatio_bottom, defBody s_PRatio_bottom, defScope s_PRatio_bottom, []⟩
abbrev s_PRatio_sign : Stmt := inClass (top 22) 3
def d_PRatio_sign : DR := ⟨fun K => gAd K (He.ga K "Ratio") "sign", "sign", "Ratio.sign", defArgs s_PRatio_sign, defBody s_PRatio_sign, defScope s_PRatio_sign, []⟩
abbrev s_PRoot_half : Stmt := inClass (top 56) 2
def d_PRoot_half : DR := ⟨fun K => gAd K (He.ga K "Root") "half", "half", "Root.half", defArgs s_PRoot_half, defBody s_PRoot_half, defScope s_PRoot_half, []⟩
def fnList : List DR := [d_Fis_integer, d_Fis_list, d_Fwant_at_most, d_Fdigits_of, d_Fcommon_part, d_Ftold_pair, d_Fis_number, d_Fratio_of, d_Fwholes, d_Fis_poly, d_Ftrimmed, d_Fwant_poly, d_Fsum_of, d_Fby_number, d_Fless_of, d_Fint_product, d_Fproduct_of, d_Fsquare_of, d_Fslope_of, d_Fplain_row, d_Fint_rest, d_Fint_common, d_Fcommon_of, d_Fis_squared, d_Fpower_of, d_Fwhole_root, d_Forder_root, d_Fsquare_root, d_Fnumbers_of, d_Fright_poly, d_Fwant_root, d_Fwant_short, d_Fpower_sum, d_Fsummed, d_Ftaken_by, d_Ftaken_off, d_Fsummed_up, d_F_law_pot, d_F_law_draw, d_F_law_pick, d_F_law_told, d_F_law_sum, d_F_law_by, d_F_law_product, d_F_law_slope, d_F_law_up, d_F_law_taken, d_F_law_made, d_F_law_line_made, d_F_law_never, d_F_law_poly, d_F_law_passed, d_F_law_doubled, d_F_law_root, d_F_law_is_told, d_F_law_one_right, d_F_law_right, d_Flaw, d_MRatio_init, d_MRatio_add, d_MRatio_sub, d_MRatio_mul, d_MRatio_over, d_MRatio_eq, d_MRatio_repr, d_MRoot_init, d_PRatio_top, d_PRatio_bottom, d_PRatio_sign, d_PRoot_half]
def faList : List He.Fa := [.glo "is_integer", .glo "is_list", .glo "want_at_most", .glo "digits_of", .glo "common_part", .glo "told_pair", .glo "is_number", .glo "ratio_of", .glo "wholes", .glo "is_poly", .glo "trimmed", .glo "want_poly", .glo "sum_of", .glo "by_number", .glo "less_of", .glo "int_product", .glo "product_of", .glo "square_of", .glo "slope_of", .glo "plain_row", .glo "int_rest", .glo "int_common", .glo "common_of", .glo "is_squared", .glo "power_of", .glo "whole_root", .glo "order_root", .glo "square_root", .glo "numbers_of", .glo "right_poly", .glo "want_root", .glo "want_short", .glo "power_sum", .glo "summed", .glo "taken_by", .glo "taken_off", .glo "summed_up", .glo "_law_pot", .glo "_law_draw", .glo "_law_pick", .glo "_law_told", .glo "_law_sum", .glo "_law_by", .glo "_law_product", .glo "_law_slope", .glo "_law_up", .glo "_law_taken", .glo "_law_made", .glo "_law_line_made", .glo "_law_never", .glo "_law_poly", .glo "_law_passed", .glo "_law_doubled", .glo "_law_root", .glo "_law_is_told", .glo "_law_one_right", .glo "_law_right", .glo "law", .glo "Ratio", .glo "Root", .glo "Known", .free "len", .free "range", .free "zip", .free "enumerate", .free "isinstance", .free "max", .free "min", .free "abs", .free "int", .free "list", .free "tuple", .free "all", .free "repr", .free "divmod", .free "bool", .int "MOST_NUMBERS" 61, .int "MOST_DEGREE" 30, .int "PART" 1000000000000000000000000000000000000000000000000000000000000, .cls "Ratio", .cls "Root", .noat "Ratio" "own_top", .noat "Ratio" "own_bottom", .noat "Root" "own_poly", .noat "Root" "own_nearest", .noat "Root" "own_rest", .mkr "Ratio", .mkr "Root", .meth "Ratio" "over"]
def ex0 (K : PySem.W.Frag) : Bool := decide (PySem.W.findIn K (.ref (cR K)) "__add__" = some (some (.ref (He.ma K (cR K) "__add__"))))
def ex1 (K : PySem.W.Frag) : Bool := PySem.W.isFn K (.ref (He.ma K (cR K) "__add__"))
def ex2 (K : PySem.W.Frag) : Bool := decide (PySem.W.findIn K (.ref (cR K)) "__radd__" = some (some (.ref (He.ma K (cR K) "__radd__"))))
def ex3 (K : PySem.W.Frag) : Bool := decide (PySem.W.findIn K (.type "int") "__add__" = some (some (.builtin "int.__add__")))
def ex4 (K : PySem.W.Frag) : Bool := decide (PySem.W.findIn K (.type "int") "__radd__" = some (some (.builtin "int.__radd__")))
def ex5 (K : PySem.W.Frag) : Bool := decide (PySem.W.findIn K (.ref (cR K)) "__sub__" = some (some (.ref (He.ma K (cR K) "__sub__"))))
def ex6 (K : PySem.W.Frag) : Bool := PySem.W.isFn K (.ref (He.ma K (cR K) "__sub__"))
def ex7 (K : PySem.W.Frag) : Bool := decide (PySem.W.findIn K (.ref (cR K)) "__rsub__" = some (some (.ref (He.ma K (cR K) "__rsub__"))))
def ex8 (K : PySem.W.Frag) : Bool := decide (PySem.W.findIn K (.type "int") "__sub__" = some (some (.builtin "int.__sub__")))
def ex9 (K : PySem.W.Frag) : Bool := decide (PySem.W.findIn K (.type "int") "__rsub__" = some (some (.builtin "int.__rsub__")))
def ex10 (K : PySem.W.Frag) : Bool := decide (PySem.W.findIn K (.ref (cR K)) "__mul__" = some (some (.ref (He.ma K (cR K) "__mul__"))))
def ex11 (K : PySem.W.Frag) : Bool := PySem.W.isFn K (.ref (He.ma K (cR K) "__mul__"))
def ex12 (K : PySem.W.Frag) : Bool := decide (PySem.W.findIn K (.ref (cR K)) "__rmul__" = some (some (.ref (He.ma K (cR K) "__rmul__"))))
def ex13 (K : PySem.W.Frag) : Bool := decide (PySem.W.findIn K (.type "int") "__mul__" = some (some (.builtin "int.__mul__")))
def ex14 (K : PySem.W.Frag) : Bool := decide (PySem.W.findIn K (.type "int") "__rmul__" = some (some (.builtin "int.__rmul__")))
def ex15 (K : PySem.W.Frag) : Bool := decide (PySem.W.subIn K (.type "int") (.ref (cR K)) = some false)
def ex16 (K : PySem.W.Frag) : Bool := PySem.W.selfFirst K (cR K)
def ex17 (K : PySem.W.Frag) : Bool := decide (PySem.W.findIn K (.ref (cR K)) "__eq__" = some (some (.ref (He.ma K (cR K) "__eq__"))))
def ex18 (K : PySem.W.Frag) : Bool := PySem.W.isFn K (.ref (He.ma K (cR K) "__eq__"))
def ex19 (K : PySem.W.Frag) : Bool := decide (PySem.W.findIn K (.ref (cR K)) "__repr__" = some (some (.ref (He.ma K (cR K) "__repr__"))))
def ex20 (K : PySem.W.Frag) : Bool := PySem.W.isFn K (.ref (He.ma K (cR K) "__repr__"))
def ex21 (K : PySem.W.Frag) : Bool := (decide (PySem.W.findIn K (.ref (He.ga K "Ratio")) "top" = some (some (.ref (He.ma K (He.ga K "Ratio") "top")))) && (decide (PySem.W.specialIn K (.ref (He.ma K (He.ga K "Ratio") "top")) "__get__" = some (some (.builtin "property.__get__"))) && (decide (PySem.W.takesIn K (.ref (He.ma K (He.ga K "Ratio") "top")) = some true) && (match PySem.W.recIn K (He.ma K (He.ga K "Ratio") "top") "property" with | some (.ref _ :: _) => true | _ => false))))
def ex22 (K : PySem.W.Frag) : Bool := (decide (PySem.W.findIn K (.ref (He.ga K "Ratio")) "bottom" = some (some (.ref (He.ma K (He.ga K "Ratio") "bottom")))) && (decide (PySem.W.specialIn K (.ref (He.ma K (He.ga K "Ratio") "bottom")) "__get__" = some (some (.builtin "property.__get__"))) && (decide (PySem.W.takesIn K (.ref (He.ma K (He.ga K "Ratio") "bottom")) = some true) && (match PySem.W.recIn K (He.ma K (He.ga K "Ratio") "bottom") "property" with | some (.ref _ :: _) => true | _ => false))))
def ex23 (K : PySem.W.Frag) : Bool := (decide (PySem.W.findIn K (.ref (He.ga K "Ratio")) "sign" = some (some (.ref (He.ma K (He.ga K "Ratio") "sign")))) && (decide (PySem.W.specialIn K (.ref (He.ma K (He.ga K "Ratio") "sign")) "__get__" = some (some (.builtin "property.__get__"))) && (decide (PySem.W.takesIn K (.ref (He.ma K (He.ga K "Ratio") "sign")) = some true) && (match PySem.W.recIn K (He.ma K (He.ga K "Ratio") "sign") "property" with | some (.ref _ :: _) => true | _ => false))))
def ex24 (K : PySem.W.Frag) : Bool := (decide (PySem.W.findIn K (.ref (He.ga K "Root")) "half" = some (some (.ref (He.ma K (He.ga K "Root") "half")))) && (decide (PySem.W.specialIn K (.ref (He.ma K (He.ga K "Root") "half")) "__get__" = some (some (.builtin "property.__get__"))) && (decide (PySem.W.takesIn K (.ref (He.ma K (He.ga K "Root") "half")) = some true) && (match PySem.W.recIn K (He.ma K (He.ga K "Root") "half") "property" with | some (.ref _ :: _) => true | _ => false))))
def ex25 (K : PySem.W.Frag) : Bool := decide (PySem.W.findIn K (.ref (cR K)) "__class__" = some (some (.builtin "object.__class__")))
def ex26 (K : PySem.W.Frag) : Bool := decide (PySem.W.mroIn K (cR K) (.type "object") = some true)
def ex27 (K : PySem.W.Frag) : Bool := decide (PySem.W.findIn K (.ref (cRoot K)) "__class__" = some (some (.builtin "object.__class__")))
def ex28 (K : PySem.W.Frag) : Bool := decide (PySem.W.mroIn K (cRoot K) (.type "object") = some true)
def ex29 (K : PySem.W.Frag) : Bool := decide (PySem.W.specialIn K (.builtin "object.__class__") "__get__" = some (some (.builtin "getset_descriptor.__get__")))
def ex30 (K : PySem.W.Frag) : Bool := decide (PySem.W.takesIn K (.builtin "object.__class__") = some true)
def ex31 (K : PySem.W.Frag) : Bool := decide (PySem.W.kitOne K (.ref (cR K)) (.type "int") = some false)
def ex32 (K : PySem.W.Frag) : Bool := decide (PySem.W.kitOne K (.ref (cR K)) (.type "bool") = some false)
def ex33 (K : PySem.W.Frag) : Bool := decide (PySem.W.kitOne K (.ref (cR K)) (.ref (cR K)) = some true)
def ex34 (K : PySem.W.Frag) : Bool := decide (PySem.W.kitOne K (.type "int") (.ref (cR K)) = some false)
def ex35 (K : PySem.W.Frag) : Bool := decide (PySem.W.kitOne K (.type "list") (.ref (cKnown K)) = some false)
def ex36 (K : PySem.W.Frag) : Bool := decide (PySem.W.kitOne K (.ref (cRoot K)) (.ref (cRoot K)) = some true)
def ex37 (K : PySem.W.Frag) : Bool := decide (PySem.W.kitOne K (.type "int") (.type "int") = some true)
def ex38 (K : PySem.W.Frag) : Bool := decide (PySem.W.kitOne K (.type "int") (.type "bool") = some false)
def ex39 (K : PySem.W.Frag) : Bool := decide (PySem.W.kitOne K (.type "list") (.type "list") = some true)
def ex40 (K : PySem.W.Frag) : Bool := decide (PySem.W.kitOne K (.type "tuple") (.type "tuple") = some true)
def ex41 (K : PySem.W.Frag) : Bool := decide (PySem.W.kitAny K (.type "list") [.type "list", .type "tuple"] = some true)
def ex42 (K : PySem.W.Frag) : Bool := decide (PySem.W.kitAny K (.type "tuple") [.type "list", .type "tuple"] = some true)
def ex43 (K : PySem.W.Frag) : Bool := decide (PySem.W.nsIn K mainGlobals "gcd" = some (some (.builtin "math.gcd")))
def ex44 (K : PySem.W.Frag) : Bool := decide (PySem.W.nsIn K mainGlobals "lcm" = some (some (.builtin "math.lcm")))
def ex45 (K : PySem.W.Frag) : Bool := He.tupB K "DEGREES" [.int 2, .int 4, .int 6, .int 8]
def ex46 (K : PySem.W.Frag) : Bool := (He.Fa.glo "DEGREES").ok K
def exList : List (PySem.W.Frag → Bool) := [ex0, ex1, ex2, ex3, ex4, ex5, ex6, ex7, ex8, ex9, ex10, ex11, ex12, ex13, ex14, ex15, ex16, ex17, ex18, ex19, ex20, ex21, ex22, ex23, ex24, ex25, ex26, ex27, ex28, ex29, ex30, ex31, ex32, ex33, ex34, ex35, ex36, ex37, ex38, ex39, ex40, ex41, ex42, ex43, ex44, ex45, ex46]
theorem propOf_ok {K : PySem.W.Frag} {C : Addr} {f : Str} (h : (decide (PySem.W.findIn K (.ref C) f = some (some (.ref (He.ma K C f)))) && (decide (PySem.W.specialIn K (.ref (He.ma K C f)) "__get__" = some (some (.builtin "property.__get__"))) && (decide (PySem.W.takesIn K (.ref (He.ma K C f)) = some true) &&
    (match PySem.W.recIn K (He.ma K C f) "property" with | some (.ref _ :: _) => true | _ => false)))) = true) : PropOf K C f (He.ma K C f) (gAd K C f) := by
  obtain ⟨h1, h⟩ := Bool.and_eq_true_iff.mp h
  obtain ⟨h2, h⟩ := Bool.and_eq_true_iff.mp h
  obtain ⟨h3, h4⟩ := Bool.and_eq_true_iff.mp h
  refine ⟨of_decide_eq_true h1, of_decide_eq_true h2, of_decide_eq_true h3, ?_⟩
  unfold gAd
  cases e : PySem.W.recIn K (He.ma K C f) "property" with
  | none => rw [e] at h4; cases h4
  | some l =>
    rw [e] at h4
    cases l with
    | nil => cases h4
    | cons v r =>
      cases v with
      | ref g => exact ⟨r, rfl⟩
      | _ => cases h4
/-- what the top has made: where each def stands, what the classes have -/
structure Txt (K : PySem.W.Frag) (mg : Str → Option Value) : Prop where
  f_Fis_integer : DefIn K d_Fis_integer
  f_Fis_list : DefIn K d_Fis_list
  f_Fwant_at_most : DefIn K d_Fwant_at_most
  f_Fdigits_of : DefIn K d_Fdigits_of
  f_Fcommon_part : DefIn K d_Fcommon_part
  f_Ftold_pair : DefIn K d_Ftold_pair
  f_Fis_number : DefIn K d_Fis_number
  f_Fratio_of : DefIn K d_Fratio_of
  f_Fwholes : DefIn K d_Fwholes
  f_Fis_poly : DefIn K d_Fis_poly
  f_Ftrimmed : DefIn K d_Ftrimmed
  f_Fwant_poly : DefIn K d_Fwant_poly
  f_Fsum_of : DefIn K d_Fsum_of
  f_Fby_number : DefIn K d_Fby_number
  f_Fless_of : DefIn K d_Fless_of
  f_Fint_product : DefIn K d_Fint_product
  f_Fproduct_of : DefIn K d_Fproduct_of
  f_Fsquare_of : DefIn K d_Fsquare_of
  f_Fslope_of : DefIn K d_Fslope_of
  f_Fplain_row : DefIn K d_Fplain_row
  f_Fint_rest : DefIn K d_Fint_rest
  f_Fint_common : DefIn K d_Fint_common
  f_Fcommon_of : DefIn K d_Fcommon_of
  f_Fis_squared : DefIn K d_Fis_squared
  f_Fpower_of : DefIn K d_Fpower_of
  f_Fwhole_root : DefIn K d_Fwhole_root
  f_Forder_root : DefIn K d_Forder_root
  f_Fsquare_root : DefIn K d_Fsquare_root
  f_Fnumbers_of : DefIn K d_Fnumbers_of
  f_Fright_poly : DefIn K d_Fright_poly
  f_Fwant_root : DefIn K d_Fwant_root
  f_Fwant_short : DefIn K d_Fwant_short
  f_Fpower_sum : DefIn K d_Fpower_sum
  f_Fsummed : DefIn K d_Fsummed
  f_Ftaken_by : DefIn K d_Ftaken_by
  f_Ftaken_off : DefIn K d_Ftaken_off
  f_Fsummed_up : DefIn K d_Fsummed_up
  f_F_law_pot : DefIn K d_F_law_pot
  f_F_law_draw : DefIn K d_F_law_draw
  f_F_law_pick : DefIn K d_F_law_pick
  f_F_law_told : DefIn K d_F_law_told
  f_F_law_sum : DefIn K d_F_law_sum
  f_F_law_by : DefIn K d_F_law_by
  f_F_law_product : DefIn K d_F_law_product
  f_F_law_slope : DefIn K d_F_law_slope
  f_F_law_up : DefIn K d_F_law_up
  f_F_law_taken : DefIn K d_F_law_taken
  f_F_law_made : DefIn K d_F_law_made
  f_F_law_line_made : DefIn K d_F_law_line_made
  f_F_law_never : DefIn K d_F_law_never
  f_F_law_poly : DefIn K d_F_law_poly
  f_F_law_passed : DefIn K d_F_law_passed
  f_F_law_doubled : DefIn K d_F_law_doubled
  f_F_law_root : DefIn K d_F_law_root
  f_F_law_is_told : DefIn K d_F_law_is_told
  f_F_law_one_right : DefIn K d_F_law_one_right
  f_F_law_right : DefIn K d_F_law_right
  f_Flaw : DefIn K d_Flaw
  f_MRatio_init : DefIn K d_MRatio_init
  f_MRatio_add : DefIn K d_MRatio_add
  f_MRatio_sub : DefIn K d_MRatio_sub
  f_MRatio_mul : DefIn K d_MRatio_mul
  f_MRatio_over : DefIn K d_MRatio_over
  f_MRatio_eq : DefIn K d_MRatio_eq
  f_MRatio_repr : DefIn K d_MRatio_repr
  f_MRoot_init : DefIn K d_MRoot_init
  f_PRatio_top : DefIn K d_PRatio_top
  f_PRatio_bottom : DefIn K d_PRatio_bottom
  f_PRatio_sign : DefIn K d_PRatio_sign
  f_PRoot_half : DefIn K d_PRoot_half
  g_is_integer : mg "is_integer" = some (.ref (He.ga K "is_integer"))
  g_is_list : mg "is_list" = some (.ref (He.ga K "is_list"))
  g_want_at_most : mg "want_at_most" = some (.ref (He.ga K "want_at_most"))
  g_digits_of : mg "digits_of" = some (.ref (He.ga K "digits_of"))
  g_common_part : mg "common_part" = some (.ref (He.ga K "common_part"))
  g_told_pair : mg "told_pair" = some (.ref (He.ga K "told_pair"))
  g_is_number : mg "is_number" = some (.ref (He.ga K "is_number"))
  g_ratio_of : mg "ratio_of" = some (.ref (He.ga K "ratio_of"))
  g_wholes : mg "wholes" = some (.ref (He.ga K "wholes"))
  g_is_poly : mg "is_poly" = some (.ref (He.ga K "is_poly"))
  g_trimmed : mg "trimmed" = some (.ref (He.ga K "trimmed"))
  g_want_poly : mg "want_poly" = some (.ref (He.ga K "want_poly"))
  g_sum_of : mg "sum_of" = some (.ref (He.ga K "sum_of"))
  g_by_number : mg "by_number" = some (.ref (He.ga K "by_number"))
  g_less_of : mg "less_of" = some (.ref (He.ga K "less_of"))
  g_int_product : mg "int_product" = some (.ref (He.ga K "int_product"))
  g_product_of : mg "product_of" = some (.ref (He.ga K "product_of"))
  g_square_of : mg "square_of" = some (.ref (He.ga K "square_of"))
  g_slope_of : mg "slope_of" = some (.ref (He.ga K "slope_of"))
  g_plain_row : mg "plain_row" = some (.ref (He.ga K "plain_row"))
  g_int_rest : mg "int_rest" = some (.ref (He.ga K "int_rest"))
  g_int_common : mg "int_common" = some (.ref (He.ga K "int_common"))
  g_common_of : mg "common_of" = some (.ref (He.ga K "common_of"))
  g_is_squared : mg "is_squared" = some (.ref (He.ga K "is_squared"))
  g_power_of : mg "power_of" = some (.ref (He.ga K "power_of"))
  g_whole_root : mg "whole_root" = some (.ref (He.ga K "whole_root"))
  g_order_root : mg "order_root" = some (.ref (He.ga K "order_root"))
  g_square_root : mg "square_root" = some (.ref (He.ga K "square_root"))
  g_numbers_of : mg "numbers_of" = some (.ref (He.ga K "numbers_of"))
  g_right_poly : mg "right_poly" = some (.ref (He.ga K "right_poly"))
  g_want_root : mg "want_root" = some (.ref (He.ga K "want_root"))
  g_want_short : mg "want_short" = some (.ref (He.ga K "want_short"))
  g_power_sum : mg "power_sum" = some (.ref (He.ga K "power_sum"))
  g_summed : mg "summed" = some (.ref (He.ga K "summed"))
  g_taken_by : mg "taken_by" = some (.ref (He.ga K "taken_by"))
  g_taken_off : mg "taken_off" = some (.ref (He.ga K "taken_off"))
  g_summed_up : mg "summed_up" = some (.ref (He.ga K "summed_up"))
  g__law_pot : mg "_law_pot" = some (.ref (He.ga K "_law_pot"))
  g__law_draw : mg "_law_draw" = some (.ref (He.ga K "_law_draw"))
  g__law_pick : mg "_law_pick" = some (.ref (He.ga K "_law_pick"))
  g__law_told : mg "_law_told" = some (.ref (He.ga K "_law_told"))
  g__law_sum : mg "_law_sum" = some (.ref (He.ga K "_law_sum"))
  g__law_by : mg "_law_by" = some (.ref (He.ga K "_law_by"))
  g__law_product : mg "_law_product" = some (.ref (He.ga K "_law_product"))
  g__law_slope : mg "_law_slope" = some (.ref (He.ga K "_law_slope"))
  g__law_up : mg "_law_up" = some (.ref (He.ga K "_law_up"))
  g__law_taken : mg "_law_taken" = some (.ref (He.ga K "_law_taken"))
  g__law_made : mg "_law_made" = some (.ref (He.ga K "_law_made"))
  g__law_line_made : mg "_law_line_made" = some (.ref (He.ga K "_law_line_made"))
  g__law_never : mg "_law_never" = some (.ref (He.ga K "_law_never"))
  g__law_poly : mg "_law_poly" = some (.ref (He.ga K "_law_poly"))
  g__law_passed : mg "_law_passed" = some (.ref (He.ga K "_law_passed"))
  g__law_doubled : mg "_law_doubled" = some (.ref (He.ga K "_law_doubled"))
  g__law_root : mg "_law_root" = some (.ref (He.ga K "_law_root"))
  g__law_is_told : mg "_law_is_told" = some (.ref (He.ga K "_law_is_told"))
  g__law_one_right : mg "_law_one_right" = some (.ref (He.ga K "_law_one_right"))
  g__law_right : mg "_law_right" = some (.ref (He.ga K "_law_right"))
  g_law : mg "law" = some (.ref (He.ga K "law"))
  g_Ratio : mg "Ratio" = some (.ref (He.ga K "Ratio"))
  g_Root : mg "Root" = some (.ref (He.ga K "Root"))
  g_Known : mg "Known" = some (.ref (He.ga K "Known"))
  n_len : mg "len" = none
  n_range : mg "range" = none
  n_zip : mg "zip" = none
  n_enumerate : mg "enumerate" = none
  n_isinstance : mg "isinstance" = none
  n_max : mg "max" = none
  n_min : mg "min" = none
  n_abs : mg "abs" = none
  n_int : mg "int" = none
  n_list : mg "list" = none
  n_tuple : mg "tuple" = none
  n_all : mg "all" = none
  n_repr : mg "repr" = none
  n_divmod : mg "divmod" = none
  n_bool : mg "bool" = none
  i_MOST_NUMBERS : ∃ t, mg "MOST_NUMBERS" = some (.int 61 t)
  i_MOST_DEGREE : ∃ t, mg "MOST_DEGREE" = some (.int 30 t)
  i_PART : ∃ t, mg "PART" = some (.int 1000000000000000000000000000000000000000000000000000000000000 t)
  c_Ratio : Cls K (He.ga K "Ratio")
  c_Root : Cls K (He.ga K "Root")
  a_Ratio_own_top : NoAttr K (He.ga K "Ratio") "own_top"
  a_Ratio_own_bottom : NoAttr K (He.ga K "Ratio") "own_bottom"
  a_Root_own_poly : NoAttr K (He.ga K "Root") "own_poly"
  a_Root_own_nearest : NoAttr K (He.ga K "Root") "own_nearest"
  a_Root_own_rest : NoAttr K (He.ga K "Root") "own_rest"
  k_Ratio : Mk K (He.ga K "Ratio") (He.ma K (He.ga K "Ratio") "__init__")
  k_Root : Mk K (He.ga K "Root") (He.ma K (He.ga K "Root") "__init__")
  m_over : Meth K (He.ga K "Ratio") "over" (He.ma K (He.ga K "Ratio") "over")
  o_add : PySem.W.findIn K (.ref (cR K)) "__add__" = some (some (.ref (He.ma K (cR K) "__add__")))
  of_add : PySem.W.isFn K (.ref (He.ma K (cR K) "__add__")) = true
  or_add : PySem.W.findIn K (.ref (cR K)) "__radd__" = some (some (.ref (He.ma K (cR K) "__radd__")))
  oi_add : PySem.W.findIn K (.type "int") "__add__" = some (some (.builtin "int.__add__"))
  oj_add : PySem.W.findIn K (.type "int") "__radd__" = some (some (.builtin "int.__radd__"))
  o_sub : PySem.W.findIn K (.ref (cR K)) "__sub__" = some (some (.ref (He.ma K (cR K) "__sub__")))
  of_sub : PySem.W.isFn K (.ref (He.ma K (cR K) "__sub__")) = true
  or_sub : PySem.W.findIn K (.ref (cR K)) "__rsub__" = some (some (.ref (He.ma K (cR K) "__rsub__")))
  oi_sub : PySem.W.findIn K (.type "int") "__sub__" = some (some (.builtin "int.__sub__"))
  oj_sub : PySem.W.findIn K (.type "int") "__rsub__" = some (some (.builtin "int.__rsub__"))
  o_mul : PySem.W.findIn K (.ref (cR K)) "__mul__" = some (some (.ref (He.ma K (cR K) "__mul__")))
  of_mul : PySem.W.isFn K (.ref (He.ma K (cR K) "__mul__")) = true
  or_mul : PySem.W.findIn K (.ref (cR K)) "__rmul__" = some (some (.ref (He.ma K (cR K) "__rmul__")))
  oi_mul : PySem.W.findIn K (.type "int") "__mul__" = some (some (.builtin "int.__mul__"))
  oj_mul : PySem.W.findIn K (.type "int") "__rmul__" = some (some (.builtin "int.__rmul__"))
  o_sub_ir : PySem.W.subIn K (.type "int") (.ref (cR K)) = some false
  o_first : PySem.W.selfFirst K (cR K) = true
  o_eq : PySem.W.findIn K (.ref (cR K)) "__eq__" = some (some (.ref (He.ma K (cR K) "__eq__")))
  of_eq : PySem.W.isFn K (.ref (He.ma K (cR K) "__eq__")) = true
  o_repr : PySem.W.findIn K (.ref (cR K)) "__repr__" = some (some (.ref (He.ma K (cR K) "__repr__")))
  of_repr : PySem.W.isFn K (.ref (He.ma K (cR K) "__repr__")) = true
  p_Ratio_top : PropOf K (He.ga K "Ratio") "top" (He.ma K (He.ga K "Ratio") "top") (gAd K (He.ga K "Ratio") "top")
  p_Ratio_bottom : PropOf K (He.ga K "Ratio") "bottom" (He.ma K (He.ga K "Ratio") "bottom") (gAd K (He.ga K "Ratio") "bottom")
  p_Ratio_sign : PropOf K (He.ga K "Ratio") "sign" (He.ma K (He.ga K "Ratio") "sign") (gAd K (He.ga K "Ratio") "sign")
  p_Root_half : PropOf K (He.ga K "Root") "half" (He.ma K (He.ga K "Root") "half") (gAd K (He.ga K "Root") "half")
  t_cls_R : PySem.W.findIn K (.ref (cR K)) "__class__" = some (some (.builtin "object.__class__"))
  t_mro_R : PySem.W.mroIn K (cR K) (.type "object") = some true
  t_cls_Root : PySem.W.findIn K (.ref (cRoot K)) "__class__" = some (some (.builtin "object.__class__"))
  t_mro_Root : PySem.W.mroIn K (cRoot K) (.type "object") = some true
  t_get : PySem.W.specialIn K (.builtin "object.__class__") "__get__" = some (some (.builtin "getset_descriptor.__get__"))
  t_tak : PySem.W.takesIn K (.builtin "object.__class__") = some true
  q_R_int : PySem.W.kitOne K (.ref (cR K)) (.type "int") = some false
  q_R_bool : PySem.W.kitOne K (.ref (cR K)) (.type "bool") = some false
  q_R_R : PySem.W.kitOne K (.ref (cR K)) (.ref (cR K)) = some true
  q_int_R : PySem.W.kitOne K (.type "int") (.ref (cR K)) = some false
  q_list_Known : PySem.W.kitOne K (.type "list") (.ref (cKnown K)) = some false
  q_Root_Root : PySem.W.kitOne K (.ref (cRoot K)) (.ref (cRoot K)) = some true
  q_int_int : PySem.W.kitOne K (.type "int") (.type "int") = some true
  q_int_bool : PySem.W.kitOne K (.type "int") (.type "bool") = some false
  q_list_list : PySem.W.kitOne K (.type "list") (.type "list") = some true
  q_tuple_tuple : PySem.W.kitOne K (.type "tuple") (.type "tuple") = some true
  qa_list : PySem.W.kitAny K (.type "list") [.type "list", .type "tuple"] = some true
  qa_tuple : PySem.W.kitAny K (.type "tuple") [.type "list", .type "tuple"] = some true
  b_gcd : mg "gcd" = some (.builtin "math.gcd")
  b_lcm : mg "lcm" = some (.builtin "math.lcm")
  tt_DEGREES : He.tupB K "DEGREES" [.int 2, .int 4, .int 6, .int 8] = true
  g_DEGREES : mg "DEGREES" = some (.ref (He.ga K "DEGREES"))
theorem txt_of {K : PySem.W.Frag} {h : Heap} {mg : Str → Option Value} (X : K.In h) (G : h.Ns mainGlobals mg) (c : obsR faList exList fnList K = valR fnList) : Txt K mg where
  f_Fis_integer := says_def c 0
  f_Fis_list := says_def c 1
  f_Fwant_at_most := says_def c 2
  f_Fdigits_of := says_def c 3
  f_Fcommon_part := says_def c 4
  f_Ftold_pair := says_def c 5
  f_Fis_number := says_def c 6
  f_Fratio_of := says_def c 7
  f_Fwholes := says_def c 8
  f_Fis_poly := says_def c 9
  f_Ftrimmed := says_def c 10
  f_Fwant_poly := says_def c 11
  f_Fsum_of := says_def c 12
  f_Fby_number := says_def c 13
  f_Fless_of := says_def c 14
  f_Fint_product := says_def c 15
  f_Fproduct_of := says_def c 16
  f_Fsquare_of := says_def c 17
  f_Fslope_of := says_def c 18
  f_Fplain_row := says_def c 19
  f_Fint_rest := says_def c 20
  f_Fint_common := says_def c 21
  f_Fcommon_of := says_def c 22
  f_Fis_squared := says_def c 23
  f_Fpower_of := says_def c 24
  f_Fwhole_root := says_def c 25
  f_Forder_root := says_def c 26
  f_Fsquare_root := says_def c 27
  f_Fnumbers_of := says_def c 28
  f_Fright_poly := says_def c 29
  f_Fwant_root := says_def c 30
  f_Fwant_short := says_def c 31
  f_Fpower_sum := says_def c 32
  f_Fsummed := says_def c 33
  f_Ftaken_by := says_def c 34
  f_Ftaken_off := says_def c 35
  f_Fsummed_up := says_def c 36
  f_F_law_pot := says_def c 37
  f_F_law_draw := says_def c 38
  f_F_law_pick := says_def c 39
  f_F_law_told := says_def c 40
  f_F_law_sum := says_def c 41
  f_F_law_by := says_def c 42
  f_F_law_product := says_def c 43
  f_F_law_slope := says_def c 44
  f_F_law_up := says_def c 45
  f_F_law_taken := says_def c 46
  f_F_law_made := says_def c 47
  f_F_law_line_made := says_def c 48
  f_F_law_never := says_def c 49
  f_F_law_poly := says_def c 50
  f_F_law_passed := says_def c 51
  f_F_law_doubled := says_def c 52
  f_F_law_root := says_def c 53
  f_F_law_is_told := says_def c 54
  f_F_law_one_right := says_def c 55
  f_F_law_right := says_def c 56
  f_Flaw := says_def c 57
  f_MRatio_init := says_def c 58
  f_MRatio_add := says_def c 59
  f_MRatio_sub := says_def c 60
  f_MRatio_mul := says_def c 61
  f_MRatio_over := says_def c 62
  f_MRatio_eq := says_def c 63
  f_MRatio_repr := says_def c 64
  f_MRoot_init := says_def c 65
  f_PRatio_top := says_def c 66
  f_PRatio_bottom := says_def c 67
  f_PRatio_sign := says_def c 68
  f_PRoot_half := says_def c 69
  g_is_integer := He.glo_ok X G (says_fa c 0)
  g_is_list := He.glo_ok X G (says_fa c 1)
  g_want_at_most := He.glo_ok X G (says_fa c 2)
  g_digits_of := He.glo_ok X G (says_fa c 3)
  g_common_part := He.glo_ok X G (says_fa c 4)
  g_told_pair := He.glo_ok X G (says_fa c 5)
  g_is_number := He.glo_ok X G (says_fa c 6)
  g_ratio_of := He.glo_ok X G (says_fa c 7)
  g_wholes := He.glo_ok X G (says_fa c 8)
  g_is_poly := He.glo_ok X G (says_fa c 9)
  g_trimmed := He.glo_ok X G (says_fa c 10)
  g_want_poly := He.glo_ok X G (says_fa c 11)
  g_sum_of := He.glo_ok X G (says_fa c 12)
  g_by_number := He.glo_ok X G (says_fa c 13)
  g_less_of := He.glo_ok X G (says_fa c 14)
  g_int_product := He.glo_ok X G (says_fa c 15)
  g_product_of := He.glo_ok X G (says_fa c 16)
  g_square_of := He.glo_ok X G (says_fa c 17)
  g_slope_of := He.glo_ok X G (says_fa c 18)
  g_plain_row := He.glo_ok X G (says_fa c 19)
  g_int_rest := He.glo_ok X G (says_fa c 20)
  g_int_common := He.glo_ok X G (says_fa c 21)
  g_common_of := He.glo_ok X G (says_fa c 22)
  g_is_squared := He.glo_ok X G (says_fa c 23)
  g_power_of := He.glo_ok X G (says_fa c 24)
  g_whole_root := He.glo_ok X G (says_fa c 25)
  g_order_root := He.glo_ok X G (says_fa c 26)
  g_square_root := He.glo_ok X G (says_fa c 27)
  g_numbers_of := He.glo_ok X G (says_fa c 28)
  g_right_poly := He.glo_ok X G (says_fa c 29)
  g_want_root := He.glo_ok X G (says_fa c 30)
  g_want_short := He.glo_ok X G (says_fa c 31)
  g_power_sum := He.glo_ok X G (says_fa c 32)
  g_summed := He.glo_ok X G (says_fa c 33)
  g_taken_by := He.glo_ok X G (says_fa c 34)
  g_taken_off := He.glo_ok X G (says_fa c 35)
  g_summed_up := He.glo_ok X G (says_fa c 36)
  g__law_pot := He.glo_ok X G (says_fa c 37)
  g__law_draw := He.glo_ok X G (says_fa c 38)
  g__law_pick := He.glo_ok X G (says_fa c 39)
  g__law_told := He.glo_ok X G (says_fa c 40)
  g__law_sum := He.glo_ok X G (says_fa c 41)
  g__law_by := He.glo_ok X G (says_fa c 42)
  g__law_product := He.glo_ok X G (says_fa c 43)
  g__law_slope := He.glo_ok X G (says_fa c 44)
  g__law_up := He.glo_ok X G (says_fa c 45)
  g__law_taken := He.glo_ok X G (says_fa c 46)
  g__law_made := He.glo_ok X G (says_fa c 47)
  g__law_line_made := He.glo_ok X G (says_fa c 48)
  g__law_never := He.glo_ok X G (says_fa c 49)
  g__law_poly := He.glo_ok X G (says_fa c 50)
  g__law_passed := He.glo_ok X G (says_fa c 51)
  g__law_doubled := He.glo_ok X G (says_fa c 52)
  g__law_root := He.glo_ok X G (says_fa c 53)
  g__law_is_told := He.glo_ok X G (says_fa c 54)
  g__law_one_right := He.glo_ok X G (says_fa c 55)
  g__law_right := He.glo_ok X G (says_fa c 56)
  g_law := He.glo_ok X G (says_fa c 57)
  g_Ratio := He.glo_ok X G (says_fa c 58)
  g_Root := He.glo_ok X G (says_fa c 59)
  g_Known := He.glo_ok X G (says_fa c 60)
  n_len := He.free_ok X G (says_fa c 61)
  n_range := He.free_ok X G (says_fa c 62)
  n_zip := He.free_ok X G (says_fa c 63)
  n_enumerate := He.free_ok X G (says_fa c 64)
  n_isinstance := He.free_ok X G (says_fa c 65)
  n_max := He.free_ok X G (says_fa c 66)
  n_min := He.free_ok X G (says_fa c 67)
  n_abs := He.free_ok X G (says_fa c 68)
  n_int := He.free_ok X G (says_fa c 69)
  n_list := He.free_ok X G (says_fa c 70)
  n_tuple := He.free_ok X G (says_fa c 71)
  n_all := He.free_ok X G (says_fa c 72)
  n_repr := He.free_ok X G (says_fa c 73)
  n_divmod := He.free_ok X G (says_fa c 74)
  n_bool := He.free_ok X G (says_fa c 75)
  i_MOST_NUMBERS := He.int_ok X G (says_fa c 76)
  i_MOST_DEGREE := He.int_ok X G (says_fa c 77)
  i_PART := He.int_ok X G (says_fa c 78)
  c_Ratio := He.cls_ok (says_fa c 79)
  c_Root := He.cls_ok (says_fa c 80)
  a_Ratio_own_top := He.noat_ok (says_fa c 81)
  a_Ratio_own_bottom := He.noat_ok (says_fa c 82)
  a_Root_own_poly := He.noat_ok (says_fa c 83)
  a_Root_own_nearest := He.noat_ok (says_fa c 84)
  a_Root_own_rest := He.noat_ok (says_fa c 85)
  k_Ratio := He.mkr_ok (says_fa c 86)
  k_Root := He.mkr_ok (says_fa c 87)
  m_over := He.meth_ok (says_fa c 88)
  o_add := of_decide_eq_true (says_ex c 0)
  of_add := says_ex c 1
  or_add := of_decide_eq_true (says_ex c 2)
  oi_add := of_decide_eq_true (says_ex c 3)
  oj_add := of_decide_eq_true (says_ex c 4)
  o_sub := of_decide_eq_true (says_ex c 5)
  of_sub := says_ex c 6
  or_sub := of_decide_eq_true (says_ex c 7)
  oi_sub := of_decide_eq_true (says_ex c 8)
  oj_sub := of_decide_eq_true (says_ex c 9)
  o_mul := of_decide_eq_true (says_ex c 10)
  of_mul := says_ex c 11
  or_mul := of_decide_eq_true (says_ex c 12)
  oi_mul := of_decide_eq_true (says_ex c 13)
  oj_mul := of_decide_eq_true (says_ex c 14)
  o_sub_ir := of_decide_eq_true (says_ex c 15)
  o_first := says_ex c 16
  o_eq := of_decide_eq_true (says_ex c 17)
  of_eq := says_ex c 18
  o_repr := of_decide_eq_true (says_ex c 19)
  of_repr := says_ex c 20
  p_Ratio_top := propOf_ok (says_ex c 21)
  p_Ratio_bottom := propOf_ok (says_ex c 22)
  p_Ratio_sign := propOf_ok (says_ex c 23)
  p_Root_half := propOf_ok (says_ex c 24)
  t_cls_R := of_decide_eq_true (says_ex c 25)
  t_mro_R := of_decide_eq_true (says_ex c 26)
  t_cls_Root := of_decide_eq_true (says_ex c 27)
  t_mro_Root := of_decide_eq_true (says_ex c 28)
  t_get := of_decide_eq_true (says_ex c 29)
  t_tak := of_decide_eq_true (says_ex c 30)
  q_R_int := of_decide_eq_true (says_ex c 31)
  q_R_bool := of_decide_eq_true (says_ex c 32)
  q_R_R := of_decide_eq_true (says_ex c 33)
  q_int_R := of_decide_eq_true (says_ex c 34)
  q_list_Known := of_decide_eq_true (says_ex c 35)
  q_Root_Root := of_decide_eq_true (says_ex c 36)
  q_int_int := of_decide_eq_true (says_ex c 37)
  q_int_bool := of_decide_eq_true (says_ex c 38)
  q_list_list := of_decide_eq_true (says_ex c 39)
  q_tuple_tuple := of_decide_eq_true (says_ex c 40)
  qa_list := of_decide_eq_true (says_ex c 41)
  qa_tuple := of_decide_eq_true (says_ex c 42)
  b_gcd := PySem.W.mg_of X G (of_decide_eq_true (says_ex c 43))
  b_lcm := PySem.W.mg_of X G (of_decide_eq_true (says_ex c 44))
  tt_DEGREES := says_ex c 45
  g_DEGREES := He.glo_ok X G (says_ex c 46)
end RR
set_option maxHeartbeats 0
-- RH
namespace RR
open PySem PySem.Spec PyProof.Rows L2
abbrev rowO : PySem.W.OpenRow := PySem.W.OpenLaw.row PySem.Challenge.rw_rootsround_k61_whole_taken_off_and_summe
abbrev hk : PySem.W.Hook := hookR 5 faList exList fnList
def ob (s : PySem.W.SharedT) : AlR := obsRG 5 faList exList fnList (HandSHeadRun.getT s)
theorem ob_eq (s : PySem.W.SharedT) : ob s = hk.obs s.abs := obsRG_eq (HandSHeadRun.getT_eq s)
def names0 : List PySem.Str := ["_wall", "__name__", "RootError", "StateError", "LimitError", "InvalidNumber", "InvalidPoly", "InvalidRoot", "DividedByZero", "WrongDegree", "HasSquare", "NoSquareHead", "TooMany", "is_integer", "is_list", "want_at_most", "PART", "digits_of", "common_part", "Ratio", "told_pair", "is_number", "ratio_of", "want_number", "wholes", "total_of", "MOST_NUMBERS", "is_poly", "trimmed", "want_poly"]
def names1 : List PySem.Str := ["sum_of", "by_number", "less_of", "int_product", "product_of", "square_of", "slope_of", "plain_row", "int_rest", "int_common", "common_of", "is_squared", "DEGREES", "power_of", "whole_root", "order_root", "square_root", "numbers_of", "right_poly", "Known", "Root", "want_root", "MOST_DEGREE", "want_short", "power_sum", "summed", "taken_by", "taken_off", "summed_up", "_law_pot"]
def names2 : List PySem.Str := ["_law_draw", "_law_pick", "_law_told", "_law_sum", "_law_by", "_law_product", "_law_slope", "_law_up", "_law_taken", "_law_made", "_law_line_made", "_law_never", "_law_poly", "_law_passed", "_law_doubled", "_law_root", "_law_is_told", "_law_one_right", "_law_right"]
def names : List PySem.Str := names0 ++ names1 ++ names2
/-! the run, looked at five times: each look alone stays small -/
section
variable {α : Type} {o : Option α}
theorem join3 {β γ : Type} {f : α → Bool} {g : α → β} {k : α → γ} {a : Bool} {b : β} {c : γ} (h1 : o.map f = some a) (h2 : o.map g = some b) (h3 : o.map k = some c) : o.map (fun x => (f x, g x, k x)) = some (a, b, c) := by
  cases o with
  | none => cases h1
  | some x =>
    have e1 : f x = a := Option.some.inj h1
    have e2 : g x = b := Option.some.inj h2
    have e3 : k x = c := Option.some.inj h3
    show some (f x, g x, k x) = _
    rw [e1, e2, e3]
theorem joinR {n : Nat} {fa : List He.Fa} {ex : List (PySem.W.Frag → Bool)} {fn : List DR} {t : α → Addr → Option Obj} (h1 : o.map (fun x => obsRG n fa [] [] (t x)) = some (valR [])) (h2 : o.map (fun x => obsRG n [] ex [] (t x)) = some (valR [])) (h3 : o.map (fun x => obsRG n [] [] fn (t x)) = some (valR fn)) :
    o.map (fun x => obsRG n fa ex fn (t x)) = some (valR fn) := by
  cases o with
  | none => cases h1
  | some x =>
    have e1 : obsR fa [] [] (He.frG (t x) (asR (t x) n)) = valR [] := Option.some.inj h1
    have e2 : obsR [] ex [] (He.frG (t x) (asR (t x) n)) = valR [] := Option.some.inj h2
    have e3 : obsR [] [] fn (He.frG (t x) (asR (t x) n)) = valR fn := Option.some.inj h3
    show some (obsR fa ex fn (He.frG (t x) (asR (t x) n))) = _
    generalize He.frG (t x) (asR (t x) n) = K at e1 e2 e3
    have a1 := (saysB e1).1
    have a2 := (saysB e2).2.1
    have a3 := (saysB e3).2.2
    have b3 : fn.map (fun d => d.look K) = fn.map DR.val := congrArg (fun z : AlR => z.2) e3
    show some ((fa.all fun f => f.ok K) && ((ex.all fun f => f K) && fn.all fun d => d.ok K), fn.map fun d => d.look K) = _
    rw [a1, a2, a3, b3]
    rfl
theorem joinF {n : Nat} {f1 f2 : List DR} {t : α → Addr → Option Obj} (h1 : o.map (fun x => obsRG n [] [] f1 (t x)) = some (valR f1)) (h2 : o.map (fun x => obsRG n [] [] f2 (t x)) = some (valR f2)) : o.map (fun x => obsRG n [] [] (f1 ++ f2) (t x)) = some (valR (f1 ++ f2)) := by
  cases o with
  | none => cases h1
  | some x =>
    have e1 : obsR [] [] f1 (He.frG (t x) (asR (t x) n)) = valR f1 := Option.some.inj h1
    have e2 : obsR [] [] f2 (He.frG (t x) (asR (t x) n)) = valR f2 := Option.some.inj h2
    show some (obsR [] [] (f1 ++ f2) (He.frG (t x) (asR (t x) n))) = _
    generalize He.frG (t x) (asR (t x) n) = K at e1 e2
    have a1 := (saysB e1).2.2
    have a2 := (saysB e2).2.2
    have b1 : f1.map (fun d => d.look K) = f1.map DR.val := congrArg (fun z : AlR => z.2) e1
    have b2 : f2.map (fun d => d.look K) = f2.map DR.val := congrArg (fun z : AlR => z.2) e2
    show some (true && (true && (f1 ++ f2).all fun d => d.ok K), (f1 ++ f2).map fun d => d.look K) = some (true, (f1 ++ f2).map DR.val)
    rw [List.all_append, List.map_append, List.map_append, a1, a2, b1, b2]
    rfl
end
noncomputable def whole (w : World) : Option (Shared × PySem.W.SharedT) := HandSHeadRun.wholeF (fun p => HandSHeadRun.stepQ (HandSHeadRun.denQ HandSHeadRun.tabQ) p w) HandSHeadRun.fenceQ 7000 rowO.prog
def viewO : Program := PySem.W.view rowO.prog [0, 87]
theorem run5a (w : World) : (whole w).map (fun x => obsRG 5 [] [] (fnList.take 36) (HandSHeadRun.getT x.2)) = some (valR (fnList.take 36)) := by kernel_rfl
theorem run5b (w : World) : (whole w).map (fun x => obsRG 5 [] [] (fnList.drop 36) (HandSHeadRun.getT x.2)) = some (valR (fnList.drop 36)) := by kernel_rfl
theorem run5 (w : World) : (whole w).map (fun x => obsRG 5 [] [] fnList (HandSHeadRun.getT x.2)) = some (valR fnList) := by
  have h := joinF (run5a w) (run5b w)
  rw [List.take_append_drop] at h
  exact h
theorem run4 (w : World) : (whole w).map (fun x => obsRG 5 [] exList [] (HandSHeadRun.getT x.2)) = some (valR []) := by kernel_rfl
theorem run3 (w : World) : (whole w).map (fun x => obsRG 5 faList [] [] (HandSHeadRun.getT x.2)) = some (valR []) := by kernel_rfl
theorem run1 (w : World) : (whole w).map (fun x => HandSHeadRun.looksF rowO.prog x.1.heap x.2.abs) = some true := by kernel_rfl
theorem run2 (w : World) : (whole w).map (fun x => HandSHeadRun.seenQ viewO names (importedModules rowO.prog.main.body) (fun s => PySem.W.xlAt viewO [] s && PySem.W.recOk rowO.toRowW.records s) x.2.abs) = some (PySem.W.openGood viewO names) := by kernel_rfl
theorem run (w : World) : HandSHeadRun.RunEqI rowO viewO hk ob 7000 names w :=
  join3 (o := whole w) (run1 w) (run2 w) (joinR (run3 w) (run4 w) (run5 w))
end RR
set_option maxHeartbeats 1000000
-- RM
namespace RR
/-! ### fractions in lowest terms, as the program makes them -/
/-- the common part with the bottom's sign -/
def comm (t b : Int) : Int := if b < 0 then 0 - ((Nat.gcd t.natAbs b.natAbs : Nat) : Int) else ((Nat.gcd t.natAbs b.natAbs : Nat) : Int)
theorem gcd_pos {t b : Int} (hb : b ≠ 0) : 0 < Nat.gcd t.natAbs b.natAbs := Nat.gcd_pos_of_pos_right _ (by omega)
theorem comm_ne {t b : Int} (hb : b ≠ 0) : comm t b ≠ 0 := by
  have h := gcd_pos (t := t) hb
  unfold comm
  split <;> omega
theorem comm_abs {t b : Int} : (comm t b).natAbs = Nat.gcd t.natAbs b.natAbs := by
  unfold comm
  split <;> omega
theorem gcd_le {t b : Int} (hb : b ≠ 0) : Nat.gcd t.natAbs b.natAbs ≤ b.natAbs := Nat.gcd_le_right _ (by omega)
theorem gcd_eq (t b : Int) : (Int.gcd b t : Int) = ((Nat.gcd t.natAbs b.natAbs : Nat) : Int) := by
  unfold Int.gcd
  rw [Nat.gcd_comm]
theorem comm_dvd_t (t b : Int) : comm t b ∣ t := by
  have h : ((Nat.gcd t.natAbs b.natAbs : Nat) : Int) ∣ t := Int.natAbs_dvd_natAbs.mp (Nat.gcd_dvd_left _ _)
  unfold comm
  split
  · rw [Int.zero_sub]; exact Int.neg_dvd.mpr h
  · exact h
theorem comm_dvd_b (t b : Int) : comm t b ∣ b := by
  have h : ((Nat.gcd t.natAbs b.natAbs : Nat) : Int) ∣ b := Int.natAbs_dvd_natAbs.mp (Nat.gcd_dvd_right _ _)
  unfold comm
  split
  · rw [Int.zero_sub]; exact Int.neg_dvd.mpr h
  · exact h
theorem fdiv_exact {a c : Int} (h : c ∣ a) : a.fdiv c = a / c := Int.fdiv_eq_ediv_of_dvd h
theorem rat_num (t b : Int) (hb : b ≠ 0) : t.fdiv (comm t b) = (Rat.divInt t b).num := by
  rw [fdiv_exact (comm_dvd_t t b), Rat.num_divInt, gcd_eq]
  have h := gcd_pos (t := t) hb
  have hd : ((Nat.gcd t.natAbs b.natAbs : Nat) : Int) ∣ t := Int.natAbs_dvd_natAbs.mp (Nat.gcd_dvd_left _ _)
  unfold comm
  split
  · rename_i h0
    rw [Int.sign_eq_neg_one_of_neg h0, Int.zero_sub, Int.ediv_neg, Int.neg_mul, Int.one_mul, Int.neg_ediv_of_dvd hd]
  · rename_i h0
    rw [Int.sign_eq_one_of_pos (by omega), Int.one_mul]
theorem rat_den (t b : Int) (hb : b ≠ 0) : b.fdiv (comm t b) = ((Rat.divInt t b).den : Int) := by
  rw [fdiv_exact (comm_dvd_b t b), Rat.den_divInt, if_neg hb]
  have hd : ((Nat.gcd t.natAbs b.natAbs : Nat) : Int) ∣ b := Int.natAbs_dvd_natAbs.mp (Nat.gcd_dvd_right _ _)
  rw [Int.natCast_ediv, gcd_eq]
  unfold comm
  split
  · rename_i h0
    have : ((b.natAbs : Nat) : Int) = -b := by omega
    rw [this, Int.zero_sub, Int.ediv_neg, Int.neg_ediv_of_dvd hd]
  · rename_i h0
    have : ((b.natAbs : Nat) : Int) = b := by omega
    rw [this]
theorem den_ne (q : Rat) : (q.den : Int) ≠ 0 := by have := q.den_nz; omega
theorem rat_add (p q : Rat) : Rat.divInt (p.num * q.den + q.num * p.den) (p.den * q.den) = p + q := by
  rw [← Rat.divInt_add_divInt _ _ (den_ne p) (den_ne q), Rat.num_divInt_den, Rat.num_divInt_den]
theorem rat_sub (p q : Rat) : Rat.divInt (p.num * q.den - q.num * p.den) (p.den * q.den) = p - q := by
  rw [← Rat.divInt_sub_divInt _ _ (den_ne p) (den_ne q), Rat.num_divInt_den, Rat.num_divInt_den]
theorem rat_mul (p q : Rat) : Rat.divInt (p.num * q.num) (p.den * q.den) = p * q := by
  rw [← Rat.divInt_mul_divInt, Rat.num_divInt_den, Rat.num_divInt_den]
theorem rat_over (p q : Rat) : Rat.divInt (p.num * q.den) (p.den * q.num) = p / q := by
  rw [Rat.div_def, Rat.inv_def, ← Rat.divInt_mul_divInt, Rat.num_divInt_den]
theorem rat_int (i : Int) : Rat.divInt i 1 = (i : Rat) := by
  rw [Rat.divInt_eq_div]
  grind
theorem num_zero {q : Rat} : q.num = 0 ↔ q = 0 := Rat.num_eq_zero
/-- the sign -/
def sgn (q : Rat) : Int := (if decide (0 < q.num) then 1 else 0) - (if decide (q.num < 0) then 1 else 0)
theorem sgn_ne {q : Rat} : (sgn q = 0) ↔ q = 0 := by
  rw [← num_zero]
  unfold sgn
  generalize q.num = n
  by_cases h1 : 0 < n
  · have h2 : ¬ n < 0 := by omega
    rw [decide_eq_true h1, decide_eq_false h2]
    constructor
    · intro h; exact absurd h (by decide)
    · intro h; omega
  · by_cases h2 : n < 0
    · rw [decide_eq_false h1, decide_eq_true h2]
      constructor
      · intro h; exact absurd h (by decide)
      · intro h; omega
    · rw [decide_eq_false h1, decide_eq_false h2]
      constructor
      · intro _; omega
      · intro _; decide
/-! ### sizes -/
/-- neither the top nor the bottom is of more than 4,000 bits -/
def Sz (q : Rat) : Prop := q.num.natAbs < 2 ^ 4000 ∧ q.den < 2 ^ 4000
/-- q is n / M with n of fewer than k bits -/
def Fit (M k : Nat) (q : Rat) : Prop := ∃ n : Int, q = Rat.divInt n M ∧ n.natAbs < 2 ^ k
theorem Fit.sz {M k : Nat} {q : Rat} (h : Fit M k q) (hM : 0 < M) (hM2 : M < 2 ^ 4000) (hk : k ≤ 4000) : Sz q := by
  obtain ⟨n, rfl, hn⟩ := h
  have hM0 : (M : Int) ≠ 0 := by omega
  have hp : (2 : Nat) ^ k ≤ 2 ^ 4000 := Nat.pow_le_pow_right (by decide) hk
  refine ⟨?_, ?_⟩
  · rw [← rat_num n M hM0, fdiv_exact (comm_dvd_t _ _)]
    refine Nat.lt_of_le_of_lt ?_ (Nat.lt_of_lt_of_le hn hp)
    rw [Int.natAbs_ediv_of_dvd (comm_dvd_t _ _)]
    exact Nat.div_le_self _ _
  · have e : ((Rat.divInt n M).den : Int) ≤ M := by
      rw [← rat_den n M hM0, fdiv_exact (comm_dvd_b _ _)]
      have h1 : ((M : Int) / comm n M).natAbs ≤ (M : Int).natAbs := by
        rw [Int.natAbs_ediv_of_dvd (comm_dvd_b _ _)]
        exact Nat.div_le_self _ _
      omega
    omega
theorem Fit.int {k : Nat} {i : Int} (h : i.natAbs < 2 ^ k) : Fit 1 k (i : Rat) := ⟨i, (rat_int i).symm, h⟩
theorem Fit.zero {M k : Nat} : Fit M k 0 := ⟨0, by simp, Nat.two_pow_pos k⟩
theorem divInt_scale {n : Int} {M c : Nat} (hc : 0 < c) : Rat.divInt (n * c) ((M * c : Nat) : Int) = Rat.divInt n M := by
  rw [Int.natCast_mul]
  exact Rat.divInt_mul_right (by omega)
/-- over a multiple of the bottom -/
theorem Fit.scale {M k : Nat} {q : Rat} (h : Fit M k q) (c j : Nat) (hc : 0 < c) (hj : c ≤ 2 ^ j) : Fit (M * c) (k + j) q := by
  obtain ⟨n, rfl, hn⟩ := h
  refine ⟨n * c, (divInt_scale hc).symm, ?_⟩
  rw [Int.natAbs_mul, Int.natAbs_natCast, Nat.pow_add]
  exact Nat.lt_of_le_of_lt (Nat.mul_le_mul_left _ hj) (Nat.mul_lt_mul_of_pos_right hn (Nat.two_pow_pos j))
theorem Fit.mono {M k j : Nat} {q : Rat} (h : Fit M k q) (hk : k ≤ j) : Fit M j q := by
  obtain ⟨n, e, hn⟩ := h
  exact ⟨n, e, Nat.lt_of_lt_of_le hn (Nat.pow_le_pow_right (by decide) hk)⟩
theorem Fit.add {M k : Nat} {p q : Rat} (hp : Fit M k p) (hq : Fit M k q) (hM : 0 < M) : Fit M (k + 1) (p + q) := by
  obtain ⟨n, rfl, hn⟩ := hp
  obtain ⟨m, rfl, hm⟩ := hq
  refine ⟨n + m, ?_, ?_⟩
  · have h0 : ((M : Int) : Rat) ≠ 0 := by
      intro h
      have := Rat.intCast_inj.mp (h.trans Rat.intCast_zero.symm)
      omega
    rw [Rat.divInt_eq_div, Rat.divInt_eq_div, Rat.divInt_eq_div]
    rw [Rat.intCast_add]
    grind
  · rw [Nat.pow_succ]
    omega
theorem Fit.neg {M k : Nat} {p : Rat} (hp : Fit M k p) : Fit M k (-p) := by
  obtain ⟨n, rfl, hn⟩ := hp
  exact ⟨-n, (Rat.neg_divInt n M), by omega⟩
theorem Fit.sub {M k : Nat} {p q : Rat} (hp : Fit M k p) (hq : Fit M k q) (hM : 0 < M) : Fit M (k + 1) (p - q) := by
  rw [Rat.sub_eq_add_neg]
  exact hp.add hq.neg hM
theorem Fit.mul {M M' k j : Nat} {p q : Rat} (hp : Fit M k p) (hq : Fit M' j q) : Fit (M * M') (k + j) (p * q) := by
  obtain ⟨n, rfl, hn⟩ := hp
  obtain ⟨m, rfl, hm⟩ := hq
  refine ⟨n * m, by rw [Int.natCast_mul, Rat.divInt_mul_divInt], ?_⟩
  rw [Int.natAbs_mul, Nat.pow_add]
  exact Nat.mul_lt_mul'' hn hm
theorem Sz.int {i : Int} (h : i.natAbs < 2 ^ 4000) : Sz (i : Rat) := ⟨h, by show (1 : Nat) < 2 ^ 4000; exact Nat.one_lt_two_pow (by decide)⟩
end RR
set_option maxHeartbeats 4000000
-- RF
namespace RR
open PySem PySem.Spec PyProof.Rows L2

/-! ### a Ratio -/
def rF (q : Rat) : List (Str × V) := [("own_top", .int q.num), ("own_bottom", .int q.den)]
def IsR (K : PySem.W.Frag) (q : Rat) : V → Hp → Prop := fun v H => ∃ p dx, v = .ref p ∧ H p = some (.ins (cR K) dx (rF q))
/-- a Ratio or an int -/
def Num (K : PySem.W.Frag) (q : Rat) : V → Hp → Prop := fun v H => IsR K q v H ∨ ∃ i : Int, v = .int i ∧ q = (i : Rat)
section
variable {K : PySem.W.Frag} {q : Rat} {pa : Option Addr}
theorem IsR.kp {v : V} {H1 H2 : Hp} (h : IsR K q v H1) (k : Kp pa H1 H2) : IsR K q v H2 := by
  obtain ⟨p, dx, e, hp⟩ := h
  exact ⟨p, dx, e, k.get hp (fun z => z)⟩
instance : Stb pa (IsR K q) := ⟨fun _ _ _ k h => h.kp k⟩
instance : Stb pa (Num K q) := ⟨fun _ _ _ k h => h.imp (fun h => h.kp k) id⟩
theorem IsR.fr {v : V} {H H' : Hp} {D : Addr} {xs : List V} (hD : H D = some (.lst xs)) (f : ∀ b o, H b = some o → b ≠ D → H' b = some o) (h : IsR K q v H) : IsR K q v H' := by
  obtain ⟨p, dx, e, hp⟩ := h
  exact ⟨p, dx, e, f p _ hp (fun z => by rw [z, hD] at hp; cases hp)⟩
instance : StbL (IsR K q) := ⟨fun _ _ _ _ _ hD f h => h.fr hD f⟩
instance : StbL (Num K q) := ⟨fun _ _ _ _ _ hD f h => h.imp (fun h => h.fr hD f) id⟩
theorem IsR.num {v : V} {H : Hp} (h : IsR K q v H) : Num K q v H := .inl h
theorem Num.int {H : Hp} (i : Int) : Num K (i : Rat) (.int i) H := .inr ⟨i, rfl, rfl⟩
end
def szR (q : Rat) : Prop := Sz q
theorem log2_lt {n k : Nat} (h : n < 2 ^ k) (hk : 0 < k) : n.log2 < k := by
  by_cases h0 : n = 0
  · subst h0; exact hk
  · exact (Nat.log2_lt h0).mpr h
/-- products of two fit -/
theorem cmulw {i j : Int} (hi : i.natAbs < 2 ^ 9000) (hj : j.natAbs < 2 ^ 9000) : CMulW i j := by
  have a := log2_lt hi (by decide)
  have b := log2_lt hj (by decide)
  show i.natAbs.log2 + j.natAbs.log2 < 1000000
  omega
theorem lt9 {n : Nat} (h : n < 2 ^ 4000) : n < 2 ^ 9000 := Nat.lt_of_lt_of_le h (Nat.pow_le_pow_right (by decide) (by decide))
theorem mul8 {i j : Nat} (hi : i < 2 ^ 4000) (hj : j < 2 ^ 4000) : i * j < 2 ^ 9000 := by
  have h : i * j < 2 ^ 4000 * 2 ^ 4000 := Nat.mul_lt_mul'' hi hj
  rw [← Nat.pow_add] at h
  exact Nat.lt_of_lt_of_le h (Nat.pow_le_pow_right (by decide) (by decide))

section
variable {X : Cx} {pa : Option Addr} {σ : L2.St} {H H' : Hp} {e a b c : Expr} {es : List Expr} {pos p : Pos} {P P' Pa Pb : V → Hp → Prop} {q r : Rat} {i j : Int} {R : List V → Hp → Prop}
theorem ev_top (T : Txt X.K X.mg) (ha : Ev pa X a σ H (IsR X.K q)) (hb : attributeBase a "own_top" X.env (eval a X.env) = eval a X.env := by rfl) : Ev pa X (.Attribute a "own_top" pos) σ H (Is (.int q.num)) :=
  ev_fld ha (fun v H' _ ⟨p, dx, e, hp⟩ => ⟨p, _, dx, _, _, e, hp, T.c_Ratio, T.a_Ratio_own_top, rfl, rfl⟩) hb
theorem ev_bot (T : Txt X.K X.mg) (ha : Ev pa X a σ H (IsR X.K q)) (hb : attributeBase a "own_bottom" X.env (eval a X.env) = eval a X.env := by rfl) : Ev pa X (.Attribute a "own_bottom" pos) σ H (Is (.int q.den)) :=
  ev_fld ha (fun v H' _ ⟨p, dx, e, hp⟩ => ⟨p, _, dx, _, _, e, hp, T.c_Ratio, T.a_Ratio_own_bottom, rfl, rfl⟩) hb
/-- a built-in class -/
theorem ev_ty {x : Str} {n : String} (hm : X.mg x = none) (hv : bootBuiltins x = some (.type n) := by decide +kernel) (hg : Gl X x := by rfl) (hn : x ≠ "__name__" := by decide) (hd : (x == ("__debug__" : Str)) = false := by decide) : Ev pa X (.Name x pos) σ H (Is (.ty n)) :=
  ev_blt hm hv rfl hg hn hd
theorem tyR {K : PySem.W.Frag} {mg : Str → Option Value} (T : Txt K mg) {v : V} (h : IsR K q v H) : TyX K H v (.ref (cR K)) := by
  obtain ⟨p, dx, rfl, hp⟩ := h
  exact .base (.ins hp T.c_Ratio T.t_cls_R T.t_get T.t_tak T.t_mro_R)
end

section
variable {P : Program} {w : World} {K : PySem.W.Frag} {mg : Str → Option Value} {base : Heap}
/-! ### promises of one, two, three values -/
abbrev PoT := V → Hp → Prop
def P1 (S : V → Hp → PoT → Prop) : Pm := fun vs H Po => ∃ a, vs = [a] ∧ S a H Po
def P2 (S : V → V → Hp → PoT → Prop) : Pm := fun vs H Po => ∃ a b, vs = [a, b] ∧ S a b H Po
def P3 (S : V → V → V → Hp → PoT → Prop) : Pm := fun vs H Po => ∃ a b c, vs = [a, b, c] ∧ S a b c H Po
/-- what may be called at an address -/
structure CalA (P : Program) (w : World) (K : PySem.W.Frag) (mg : Str → Option Value) (base : Heap) (f : Addr) (k : Nat) (sp : Sp) : Prop where
  ex : ∃ fd ps, FnOk P w K mg base CX0 k f fd ps sp ∧ PySem.W.keepIn K (.ref f) = true ∧ Binds K fd ps []
theorem CalA.mono {f : Addr} {j k : Nat} {sp : Sp} (c : CalA P w K mg base f j sp) (h : j ≤ k) : CalA P w K mg base f k sp := by
  obtain ⟨fd, ps, F, kp, b⟩ := c.ex
  exact ⟨fd, ps, F.mono h, kp, b⟩
theorem CalA.named {f : Addr} {k : Nat} {sp : Sp} {x : Str} (c : CalA P w K mg base f k sp) (g : mg x = some (.ref f)) : Cal P w K mg base x k [] sp := by
  obtain ⟨fd, ps, F, kp, b⟩ := c.ex
  exact ⟨f, fd, ps, [], F, g, kp, b, .nil⟩
theorem def1 {d : DR} {N : List Str} {k : Nat} {S : V → Hp → PoT → Prop} (D : DefIn K d) (p0 : Str)
    (hb : ∀ (cdv : Value) (A : Around) (outer : List Env) (s : Shared) (E : XK) (H : Hp) (a : V) (Po : PoT) (Q : VK), Room k (A.deeper (envOfC d.qual d.scope s.heap.objs.size (d.adr K) cdv)) → N.Nodup → S a H Po → (∀ v H', Kp none H H' → Po v H' → Q v H') →
      Ss (bodyX P w K mg base N d cdv A outer s H E) d.body (start N [a]) H { nx := fun _ H' => Q .non H', rt := Q })
    (sc : FnScope N [p0] d.scope := by exact ⟨rfl, rfl, rfl, by decide +kernel, rfl, by decide +kernel, by decide +kernel⟩) (h0 : d.dvs = [] := by rfl) (bind : BindsAs d [p0] := by exact fun _ _ _ _ _ _ us hl => match us, hl with | [_], _ => rfl) : CalA P w K mg base (d.adr K) (k + 1) (spN (P1 S)) := by
  obtain ⟨fd, F⟩ := D
  have F0 := F
  rw [h0] at F0
  refine ⟨fd, [p0], fn_def F sc (fun vs H Q E ⟨Po, ⟨a, e, _⟩, _⟩ => by rw [e]; rfl) (fun cdv A outer s H vs Q E hr ⟨Po, ⟨a, e, h⟩, q⟩ => ?_), F.kp, F0.bindsN bind⟩
  subst e
  exact hb cdv A outer s E H a Po Q hr sc.nd h q
theorem def2 {d : DR} {N : List Str} {k : Nat} {S : V → V → Hp → PoT → Prop} (D : DefIn K d) (p0 p1 : Str)
    (hb : ∀ (cdv : Value) (A : Around) (outer : List Env) (s : Shared) (E : XK) (H : Hp) (a b : V) (Po : PoT) (Q : VK), Room k (A.deeper (envOfC d.qual d.scope s.heap.objs.size (d.adr K) cdv)) → N.Nodup → S a b H Po → (∀ v H', Kp none H H' → Po v H' → Q v H') →
      Ss (bodyX P w K mg base N d cdv A outer s H E) d.body (start N [a, b]) H { nx := fun _ H' => Q .non H', rt := Q })
    (sc : FnScope N [p0, p1] d.scope := by exact ⟨rfl, rfl, rfl, by decide +kernel, rfl, by decide +kernel, by decide +kernel⟩) (h0 : d.dvs = [] := by rfl) (bind : BindsAs d [p0, p1] := by exact fun _ _ _ _ _ _ us hl => match us, hl with | [_, _], _ => rfl) : CalA P w K mg base (d.adr K) (k + 1) (spN (P2 S)) := by
  obtain ⟨fd, F⟩ := D
  have F0 := F
  rw [h0] at F0
  refine ⟨fd, [p0, p1], fn_def F sc (fun vs H Q E ⟨Po, ⟨a, b, e, _⟩, _⟩ => by rw [e]; rfl) (fun cdv A outer s H vs Q E hr ⟨Po, ⟨a, b, e, h⟩, q⟩ => ?_), F.kp, F0.bindsN bind⟩
  subst e
  exact hb cdv A outer s E H a b Po Q hr sc.nd h q
theorem def3 {d : DR} {N : List Str} {k : Nat} {S : V → V → V → Hp → PoT → Prop} (D : DefIn K d) (p0 p1 p2 : Str)
    (hb : ∀ (cdv : Value) (A : Around) (outer : List Env) (s : Shared) (E : XK) (H : Hp) (a b c : V) (Po : PoT) (Q : VK), Room k (A.deeper (envOfC d.qual d.scope s.heap.objs.size (d.adr K) cdv)) → N.Nodup → S a b c H Po → (∀ v H', Kp none H H' → Po v H' → Q v H') →
      Ss (bodyX P w K mg base N d cdv A outer s H E) d.body (start N [a, b, c]) H { nx := fun _ H' => Q .non H', rt := Q })
    (sc : FnScope N [p0, p1, p2] d.scope := by exact ⟨rfl, rfl, rfl, by decide +kernel, rfl, by decide +kernel, by decide +kernel⟩) (h0 : d.dvs = [] := by rfl) (bind : BindsAs d [p0, p1, p2] := by exact fun _ _ _ _ _ _ us hl => match us, hl with | [_, _, _], _ => rfl) : CalA P w K mg base (d.adr K) (k + 1) (spN (P3 S)) := by
  obtain ⟨fd, F⟩ := D
  have F0 := F
  rw [h0] at F0
  refine ⟨fd, [p0, p1, p2], fn_def F sc (fun vs H Q E ⟨Po, ⟨a, b, c, e, _⟩, _⟩ => by rw [e]; rfl) (fun cdv A outer s H vs Q E hr ⟨Po, ⟨a, b, c, e, h⟩, q⟩ => ?_), F.kp, F0.bindsN bind⟩
  subst e
  exact hb cdv A outer s E H a b c Po Q hr sc.nd h q
end
/-! ### calls of such -/
section
variable {X : Cx} {pa : Option Addr} {σ : L2.St} {H : Hp} {a b c : Expr} {P Pa Pb Pc : V → Hp → Prop} {x : Str} {k j : Nat} {p pos : Pos}
theorem ev_c1 {S : V → Hp → PoT → Prop} (C : Cal X.prog X.w X.K X.mg X.base x k [] (spN (P1 S))) (hr : Room j X.A) (hk : k ≤ j := by decide) (ha : Ev pa X a σ H Pa)
    (h : ∀ v H1, Kp pa H H1 → Pa v H1 → ∃ Po, S v H1 Po ∧ ∀ v H2, Kp none H1 H2 → Po v H2 → P v H2) (hg : Gl X x := by rfl) (hdb : (x == ("__debug__" : Str)) = false := by decide)
    (he : starEach [a] X.env = (false, eval a X.env) :: starEach [] X.env := by rfl) (hpl : (backTo pos (starEach [] X.env)).any (·.1) = false := by rfl) : Ev pa X (.Call (.Name x p) [a] [] pos) σ H P :=
  ev_cN C (hr.mono hk) (ea1 ha he) (fun vs H1 k1 ⟨v, r, e, pv, er⟩ => by
    obtain rfl : r = [] := er
    obtain ⟨Po, s, z⟩ := h v H1 k1 pv
    exact ⟨Po, ⟨v, by rw [e]; rfl, s⟩, z⟩) hg hdb he hpl
theorem ev_c2 {S : V → V → Hp → PoT → Prop} (C : Cal X.prog X.w X.K X.mg X.base x k [] (spN (P2 S))) (hr : Room j X.A) (hk : k ≤ j := by decide) (ha : Ev pa X a σ H Pa) (hb : Ev pa X b σ H Pb) [A : Stb pa Pa]
    (h : ∀ v u H1, Kp pa H H1 → Pa v H1 → Pb u H1 → ∃ Po, S v u H1 Po ∧ ∀ v H2, Kp none H1 H2 → Po v H2 → P v H2) (hg : Gl X x := by rfl) (hdb : (x == ("__debug__" : Str)) = false := by decide)
    (he : starEach [a, b] X.env = (false, eval a X.env) :: starEach [b] X.env := by rfl) (he2 : starEach [b] X.env = (false, eval b X.env) :: starEach [] X.env := by rfl) (hpl : (backTo pos (starEach [b] X.env)).any (·.1) = false := by rfl) : Ev pa X (.Call (.Name x p) [a, b] [] pos) σ H P :=
  ev_cN C (hr.mono hk) (ea ha (ea1 hb he2) he) (fun vs H1 k1 ⟨v, r, e, pv, u, r2, e2, pu, er⟩ => by
    obtain rfl : r2 = [] := er
    obtain ⟨Po, s, z⟩ := h v u H1 k1 pv pu
    exact ⟨Po, ⟨v, u, by rw [e, e2]; rfl, s⟩, z⟩) hg hdb he hpl
theorem ev_c3 {S : V → V → V → Hp → PoT → Prop} (C : Cal X.prog X.w X.K X.mg X.base x k [] (spN (P3 S))) (hr : Room j X.A) (hk : k ≤ j := by decide) (ha : Ev pa X a σ H Pa) (hb : Ev pa X b σ H Pb) (hc : Ev pa X c σ H Pc) [A : Stb pa Pa] [B : Stb pa Pb]
    (h : ∀ v u w H1, Kp pa H H1 → Pa v H1 → Pb u H1 → Pc w H1 → ∃ Po, S v u w H1 Po ∧ ∀ v H2, Kp none H1 H2 → Po v H2 → P v H2) (hg : Gl X x := by rfl) (hdb : (x == ("__debug__" : Str)) = false := by decide)
    (he : starEach [a, b, c] X.env = (false, eval a X.env) :: starEach [b, c] X.env := by rfl) (he2 : starEach [b, c] X.env = (false, eval b X.env) :: starEach [c] X.env := by rfl) (he3 : starEach [c] X.env = (false, eval c X.env) :: starEach [] X.env := by rfl) (hpl : (backTo pos (starEach [b, c] X.env)).any (·.1) = false := by rfl) : Ev pa X (.Call (.Name x p) [a, b, c] [] pos) σ H P :=
  ev_cN C (hr.mono hk) (ea ha (ea hb (ea1 hc he3) he2) he) (fun vs H1 k1 ⟨v, r, e, pv, u, r2, e2, pu, w, r3, e3, pw, er⟩ => by
    obtain rfl : r3 = [] := er
    obtain ⟨Po, s, z⟩ := h v u w H1 k1 pv pu pw
    exact ⟨Po, ⟨v, u, w, by rw [e, e2, e3]; rfl, s⟩, z⟩) hg hdb he hpl
end

section
variable {P : Program} {w : World} {K : PySem.W.Frag} {mg : Str → Option Value} {base : Heap}
/-! ### is_integer, is_list, common_part -/
theorem c_is_integer (T : Txt K mg) : Cal P w K mg base "is_integer" 1 [] (spN (P1 fun v H Po => ∃ b, ((∃ i, v = .int i ∧ b = true) ∨ (∃ q, IsR K q v H ∧ b = false)) ∧ Po = Is (.bl b))) := by
  refine (def1 (N := ["value"]) T.f_Fis_integer "value" fun cdv A outer s E H v Po Q hr nd ⟨b, hv, hPo⟩ hQ => ?_).named T.g_is_integer
  subst hPo
  rcases hv with ⟨i, rfl, rfl⟩ | ⟨q, hq, rfl⟩
  · exact ss_ret (pa := none) (ev_and2 (k := true) (k' := true) (ev_isi T.n_isinstance (ev_v 0) (ev_ty T.n_int) (.ty _) T.q_int_int fun v H' _ e => by rw [show v = _ from e]; exact .base (.int i)) fun _ => ev_one (ev_not (k := false) (ev_isi T.n_isinstance (ev_v 0) (ev_ty T.n_bool) (.ty _) T.q_int_bool fun v H' _ e => by rw [show v = _ from e]; exact .base (.int i)))) hQ
  · exact ss_ret (pa := none) (ev_and2 (k := false) (k' := true) (ev_isi T.n_isinstance (ev_n 0 hq) (ev_ty T.n_int) (.ty _) T.q_R_int fun v H' _ e => tyR T e) fun h => nomatch h) hQ
end
end RR
-- RG
namespace RR
open PySem PySem.Spec PyProof.Rows L2
section
variable {X : Cx} {pa : Option Addr} {σ : L2.St} {H H' : Hp} {e a b c : Expr} {es : List Expr} {pos p : Pos} {P P' Pa Pb : V → Hp → Prop} {q r : Rat} {i j : Int} {R : List V → Hp → Prop}
/-- f(e, ..), f a module's name for a built-in function -/
theorem ev_bfun {x : Str} {id : String} {r : List V → Hp → VK → Prop} (hc : CallR X (.builtin id) r) (hm : X.mg x = some (.builtin id)) (ha : EvA pa X (e :: es) σ H R)
    (h : ∀ vs H1 Q, Kp pa H H1 → R vs H1 → (∀ v H2, Kp pa H1 H2 → P v H2 → Q v H2) → r vs H1 Q) (hg : Gl X x := by rfl) (hdb : (x == ("__debug__" : Str)) = false := by decide)
    (he : starEach (e :: es) X.env = (false, eval e X.env) :: starEach es X.env := by rfl) (hpl : (backTo pos (starEach es X.env)).any (·.1) = false := by rfl) : Ev pa X (.Call (.Name x p) (e :: es) [] pos) σ H P :=
  Ev.of (pe_callBfun hc hg hm ha hdb he hpl) fun H1 Q k q => ⟨rfl, k, fun vs H2 k2 r => h vs H2 Q (k.trans k2) r fun v H3 k3 p => q v H3 (k2.trans k3) p⟩
theorem ev_gcd (T : Txt X.K X.mg) (ha : Ev pa X a σ H (Is (.int i))) (hb : Ev pa X b σ H (Is (.int j))) (hg : Gl X "gcd" := by rfl) (he : starEach [a, b] X.env = (false, eval a X.env) :: starEach [b] X.env := by rfl)
    (he2 : starEach [b] X.env = (false, eval b X.env) :: starEach [] X.env := by rfl) (hpl : (backTo pos (starEach [b] X.env)).any (·.1) = false := by rfl) : Ev pa X (.Call (.Name "gcd" p) [a, b] [] pos) σ H (Is (.int ((Nat.gcd i.natAbs j.natAbs : Nat) : Int))) :=
  ev_bfun cr_gcd T.b_gcd (ea ha (ea1 hb he2) he) (fun vs H1 Q k ⟨v, r, e, p, w, r2, e2, p2, er⟩ q => by
    obtain rfl : r2 = [] := er
    obtain rfl : v = .int i := p
    obtain rfl : w = .int j := p2
    exact ⟨i, j, by rw [e, e2], q _ H1 (Kp.refl _) rfl⟩) hg (by decide) he hpl
def rLcm : List V → Hp → VK → Prop := fun vs H Q => ∃ a b : Int, vs = [.int a, .int b] ∧ a.natAbs < 2 ^ 64 ∧ b.natAbs < 2 ^ 64 ∧ Q (.int ((Nat.lcm a.natAbs b.natAbs : Nat) : Int)) H
theorem cr_lcm : CallR X (.builtin "math.lcm") rLcm := by
  intro pins s σ H vs us Q I r h
  obtain ⟨a, b, rfl, h1, h2, q⟩ := h
  obtain ⟨t, u, rfl⟩ := Vals.int2 r
  exact PySem.W.mc_lcm h1 h2 fun _ => ⟨.int _, H, I.tok _, ⟨_, rfl⟩, q⟩
theorem ev_lcm (T : Txt X.K X.mg) (h1 : i.natAbs < 2 ^ 64) (h2 : j.natAbs < 2 ^ 64) (ha : Ev pa X a σ H (Is (.int i))) (hb : Ev pa X b σ H (Is (.int j))) (hg : Gl X "lcm" := by rfl) (he : starEach [a, b] X.env = (false, eval a X.env) :: starEach [b] X.env := by rfl)
    (he2 : starEach [b] X.env = (false, eval b X.env) :: starEach [] X.env := by rfl) (hpl : (backTo pos (starEach [b] X.env)).any (·.1) = false := by rfl) : Ev pa X (.Call (.Name "lcm" p) [a, b] [] pos) σ H (Is (.int ((Nat.lcm i.natAbs j.natAbs : Nat) : Int))) :=
  ev_bfun cr_lcm T.b_lcm (ea ha (ea1 hb he2) he) (fun vs H1 Q k ⟨v, r, e, p, w, r2, e2, p2, er⟩ q => by
    obtain rfl : r2 = [] := er
    obtain rfl : v = .int i := p
    obtain rfl : w = .int j := p2
    exact ⟨i, j, by rw [e, e2], h1, h2, q _ H1 (Kp.refl _) rfl⟩) hg (by decide) he hpl
end
section
variable {P : Program} {w : World} {K : PySem.W.Frag} {mg : Str → Option Value} {base : Heap}
/-- a list or a tuple of xs -/
def LT (xs : List V) : V → Hp → Prop := fun v H => ∃ p, v = .ref p ∧ (H p = some (.lst xs) ∨ H p = some (.tup xs))
instance {xs : List V} : Stb none (LT xs) := ⟨fun v H1 H2 k ⟨p, e, h⟩ => ⟨p, e, h.imp k.get0 k.get0⟩⟩
theorem c_is_list (T : Txt K mg) : Cal P w K mg base "is_list" 1 [] (spN (P1 fun v H Po => (∃ xs, LT xs v H) ∧ Po = Is (.bl true))) := by
  refine (def1 (N := ["value"]) T.f_Fis_list "value" fun cdv A outer s E H v Po Q hr nd ⟨⟨xs, p, e, hv⟩, hPo⟩ hQ => ?_).named T.g_is_list
  subst hPo
  subst e
  rcases hv with hv | hv
  · exact ss_ret (pa := none) (ev_isiT (P := fun v H => v = .ref p ∧ H p = some (.lst xs)) (S := ⟨fun _ _ _ k h => ⟨h.1, k.get0 h.2⟩⟩) T.n_isinstance (ev_n (S := ⟨fun _ _ _ k h => ⟨h.1, k.get0 h.2⟩⟩) 0 ⟨rfl, hv⟩) (ev_ty T.n_list) (ev_ty T.n_tuple) T.qa_list fun v H' _ ⟨e, h⟩ => by rw [e]; exact .base (.lst h)) hQ
  · exact ss_ret (pa := none) (ev_isiT (P := fun v H => v = .ref p ∧ H p = some (.tup xs)) (S := ⟨fun _ _ _ k h => ⟨h.1, k.get0 h.2⟩⟩) T.n_isinstance (ev_n (S := ⟨fun _ _ _ k h => ⟨h.1, k.get0 h.2⟩⟩) 0 ⟨rfl, hv⟩) (ev_ty T.n_list) (ev_ty T.n_tuple) T.qa_tuple fun v H' _ ⟨e, h⟩ => by rw [e]; exact .base (.tup h)) hQ
theorem c_common_part (T : Txt K mg) : Cal P w K mg base "common_part" 1 [] (spN (P2 fun u v H Po => ∃ i j : Int, u = .int i ∧ v = .int j ∧ Po = Is (.int ((Nat.gcd i.natAbs j.natAbs : Nat) : Int)))) := by
  refine (def2 (N := ["one", "other"]) T.f_Fcommon_part "one" "other" fun cdv A outer s E H u v Po Q hr nd ⟨i, j, e1, e2, hPo⟩ hQ => ?_).named T.g_common_part
  subst e1
  subst e2
  subst hPo
  exact ss_ret (pa := none) (ev_gcd T (ev_v 0) (ev_v 1)) hQ
theorem c_want_at_most (T : Txt K mg) : Cal P w K mg base "want_at_most" 1 [] (spN (P3 fun u v x H Po => ∃ i j : Int, v = .int i ∧ x = .int j ∧ j ≤ i ∧ Po = Is .non)) := by
  refine (def3 (N := ["what", "limit", "number"]) T.f_Fwant_at_most "what" "limit" "number" fun cdv A outer s E H u v x Po Q hr nd ⟨i, j, e1, e2, hij, hPo⟩ hQ => ?_).named T.g_want_at_most
  subst e1
  subst e2
  subst hPo
  refine ss_ifF (pa := none) (et_gt (ev_v 2) (ev_v 1) (by simpa using hij)) fun H' k => ss_nil ?_
  exact hQ _ _ k rfl
/-! ### Ratio(..) -/
/-- what __init__ promises: the fields -/
def spI (K : PySem.W.Frag) : Sp := fun vs H Q _ => ∃ p dx t b, vs = [.ref p, .int t, .int b] ∧ H p = some (.ins (cR K) dx []) ∧ b ≠ 0 ∧ b.natAbs < 2 ^ 9000 ∧
  ∀ H', (∀ c o, c ≠ p → H c = some o → H' c = some o) → H' p = some (.ins (cR K) dx (rF (Rat.divInt t b))) → Q .non H'
theorem fdiv_ok {t b : Int} (hb : b ≠ 0) (hs : b.natAbs < 2 ^ 9000) (a : Int) : CDivX a (comm t b) := by
  refine ⟨comm_ne hb, ?_⟩
  rw [comm_abs]
  exact log2_lt (Nat.lt_of_le_of_lt (gcd_le hb) hs) (by decide)
end
end RR
-- RI
namespace RR
open PySem PySem.Spec PyProof.Rows L2
section
variable {P : Program} {w : World} {K : PySem.W.Frag} {mg : Str → Option Value} {base : Heap}
theorem isint_b {X : Cx} {pa : Option Addr} {σ : L2.St} {H : Hp} {a : Expr} {pos p : Pos} {i : Int} {j : Nat} (T : Txt X.K X.mg) (hr : Room j X.A) (ha : Ev pa X a σ H (Is (.int i))) (hk : 1 ≤ j := by decide) (hg : Gl X "is_integer" := by rfl)
    (he : starEach [a] X.env = (false, eval a X.env) :: starEach [] X.env := by rfl) (hpl : (backTo pos (starEach [] X.env)).any (·.1) = false := by rfl) : Ev pa X (.Call (.Name "is_integer" p) [a] [] pos) σ H (Is (.bl true)) :=
  ev_c1 (c_is_integer T) hr hk ha (fun v H1 _ e => ⟨_, ⟨true, .inl ⟨i, e, rfl⟩, rfl⟩, fun _ _ _ h => h⟩) hg (by decide) he hpl
theorem fn_init (T : Txt K mg) : ∃ fd, FunD K d_MRatio_init.name d_MRatio_init.qual d_MRatio_init.params d_MRatio_init.body d_MRatio_init.scope [.int 1] [] (d_MRatio_init.adr K) fd ∧ FnOk P w K mg base CX0 3 (d_MRatio_init.adr K) fd ["self", "top", "bottom"] (spI K) := by
  obtain ⟨fd, F⟩ := T.f_MRatio_init
  refine ⟨fd, F, fn_def (N := ["self", "top", "bottom", "common"]) F ⟨rfl, rfl, rfl, by decide +kernel, rfl, by decide +kernel, by decide +kernel⟩ (fun vs H Q E ⟨p, dx, t, b, e, _⟩ => by rw [e]; rfl) fun cdv A outer s H vs Q E hr ⟨p, dx, t, b, e, hp, hb, hs, q⟩ => ?_⟩
  subst e
  have nd : (["self", "top", "bottom", "common"] : List Str).Nodup := by decide +kernel
  have hm := comm_ne (t := t) hb
  refine ss_ifF (pa := none) (et_not (k := true) (et_val (isint_b T hr (ev_v 1)))) fun H1 k1 => ?_
  refine ss_ifF (pa := none) (ew_or2 (k := false) (k' := false) (et_not (k := true) (et_val (isint_b T hr (ev_v 2)))) fun _ => ew_or1 (et_eqI (ev_v 2) ev_int (by simpa using hb))).et fun H2 k2 => ?_
  refine ss_set (pa := none) 3 (P := Is (.int ((Nat.gcd t.natAbs b.natAbs : Nat) : Int))) (ev_c2 (c_common_part T) hr (by decide) (ev_v 1) (ev_v 2) fun v u H1 _ e1 e2 => ⟨_, ⟨t, b, e1, e2, rfl⟩, fun _ _ _ h => h⟩) fun v H3 k3 e => ?_
  subst e
  have go : ∀ (σ : L2.St) H4, σ[0]? = some (some (V.ref p)) → σ[1]? = some (some (V.int t)) → σ[2]? = some (some (V.int b)) → σ[3]? = some (some (V.int (comm t b))) → Kp none H H4 →
      Ss (bodyX P w K mg base ["self", "top", "bottom", "common"] d_MRatio_init cdv A outer s H E) (d_MRatio_init.body.drop 4) σ H4 { nx := fun _ H' => Q .non H', rt := Q } := fun σ H4 s0 s1 s2 s3 k4 => by
    refine ss_fld (pa := none) (ev_fdiv (fdiv_ok hb hs t) (ev_v 1 s1) (ev_v 3 s3)) (ev_v 0 s0) fun v x H5 k5 e1 e2 => ?_
    obtain rfl : v = _ := e1
    obtain rfl : x = _ := e2
    refine ⟨p, _, dx, [], rfl, (k4.trans k5).get0 hp, T.c_Ratio, T.a_Ratio_own_top, by decide, ?_⟩
    refine ss_fld (pa := none) (ev_fdiv (fdiv_ok hb hs b) (ev_v 2 s2) (ev_v 3 s3)) (ev_v 0 s0) fun v x H6 k6 e1 e2 => ?_
    obtain rfl : v = _ := e1
    obtain rfl : x = _ := e2
    refine ⟨p, _, dx, _, rfl, k6.get0 upd_same, T.c_Ratio, T.a_Ratio_own_bottom, by show 1 < 1000; decide, ss_nil ?_⟩
    refine q _ (fun c o hc ho => ?_) ?_
    · rw [upd_ne hc]
      refine k6.get0 ?_
      rw [upd_ne hc]
      exact (k4.trans k5).get0 ho
    · rw [upd_same, rat_num t b hb, rat_den t b hb]
      rfl
  refine ss_ifb (pa := none) (k := decide (b < 0)) (et_lt (ev_v 2) ev_int rfl) (fun e H4 k4 => ?_) (fun e H4 k4 => ?_)
  · refine ss_set (pa := none) 3 (ev_sub ev_int (ev_v 3)) fun v H5 k5 e2 => ss_nil ?_
    subst e2
    refine go _ H5 rfl rfl rfl ?_ ((((k1.trans k2).trans k3).trans k4).trans k5)
    show some (some (V.int _)) = _
    unfold comm
    rw [if_pos (of_decide_eq_true e)]
  · refine ss_nil (go _ H4 rfl rfl rfl ?_ (((k1.trans k2).trans k3).trans k4))
    show some (some (V.int _)) = _
    unfold comm
    rw [if_neg (of_decide_eq_false e)]
end
section
variable {X : Cx} {pa : Option Addr} {σ : L2.St} {H H' : Hp} {e a b c : Expr} {es : List Expr} {pos p : Pos} {P P' Pa Pb : V → Hp → Prop} {q r : Rat} {i j : Int} {k : Nat}
theorem init_post {K : PySem.W.Frag} {t b : Int} {Q : VK} {H1 : Hp} (hb : b ≠ 0) (hs : b.natAbs < 2 ^ 9000) (q : ∀ v H2, Kp pa H1 H2 → IsR K (Rat.divInt t b) v H2 → Q v H2) (x dx : Addr) (hx : H1 x = none) (hdx : H1 dx = none) (hne : dx ≠ x) :
    spI K [.ref x, .int t, .int b] (upd (upd H1 dx (.own x)) x (.ins (cR K) dx [])) (fun v H2 => v = .non ∧ Q (.ref x) H2) E0 := by
  refine ⟨x, dx, t, b, rfl, upd_same, hb, hs, fun H' f hp => ⟨rfl, q _ H' (Kp.ofE fun c o ho => ?_) ⟨x, dx, rfl, hp⟩⟩⟩
  have n1 : c ≠ x := fun z => by rw [z, hx] at ho; cases ho
  have n2 : c ≠ dx := fun z => by rw [z, hdx] at ho; cases ho
  exact f c o n1 (by rw [upd_ne n1, upd_ne n2]; exact ho)
/-- Ratio(t, b) -/
theorem ev_rat2 (T : Txt X.K X.mg) (hr : Room k X.A) (hb0 : j ≠ 0) (hs : j.natAbs < 2 ^ 9000) (ha : Ev pa X a σ H (Is (.int i))) (hb : Ev pa X b σ H (Is (.int j))) (hk : 4 ≤ k := by decide) (hg : Gl X "Ratio" := by rfl)
    (he : starEach [a, b] X.env = (false, eval a X.env) :: starEach [b] X.env := by rfl) (he2 : starEach [b] X.env = (false, eval b X.env) :: starEach [] X.env := by rfl) (hpl : (backTo pos (starEach [b] X.env)).any (·.1) = false := by rfl) :
    Ev pa X (.Call (.Name "Ratio" p) [a, b] [] pos) σ H (IsR X.K (Rat.divInt i j)) := by
  obtain ⟨fd, F, Fk⟩ := fn_init (P := X.prog) (w := X.w) (base := X.base) T
  obtain ⟨ds, hd, hB⟩ := F.binds1 (ps := ["self", "top", "bottom"]) 3 1 (by simp) rfl fun T kV doc pm an cdv ct us its l1 l2 => match us, its, l1, l2 with | [_, _, _], [_], _, _ => ⟨_, rfl, rfl⟩
  refine Ev.of (pe_make (C := cR X.K) T.k_Ratio Fk (hr.mono hk) hg T.g_Ratio hB hd pass0 (ea ha (ea1 hb he2) he) (by decide) he hpl) fun H1 Q k q => ⟨rfl, k, fun vs H2 k2 ⟨v, r, e, p, u, r2, e2, p2, er⟩ x dx hx hdx hne => ?_⟩
  obtain rfl : r2 = [] := er
  obtain rfl : v = .int i := p
  obtain rfl : u = .int j := p2
  subst e2
  subst e
  exact init_post hb0 hs (fun v H3 k3 hv => q v H3 (k2.trans k3) hv) x dx hx hdx hne
/-- Ratio(t) -/
theorem ev_rat1 (T : Txt X.K X.mg) (hr : Room k X.A) (ha : Ev pa X a σ H (Is (.int i))) (hk : 4 ≤ k := by decide) (hg : Gl X "Ratio" := by rfl)
    (he : starEach [a] X.env = (false, eval a X.env) :: starEach [] X.env := by rfl) (hpl : (backTo pos (starEach [] X.env)).any (·.1) = false := by rfl) :
    Ev pa X (.Call (.Name "Ratio" p) [a] [] pos) σ H (IsR X.K (i : Rat)) := by
  obtain ⟨fd, F, Fk⟩ := fn_init (P := X.prog) (w := X.w) (base := X.base) T
  obtain ⟨ds, hd, hB⟩ := F.binds1 (ps := ["self", "top", "bottom"]) 2 0 (by simp) rfl fun T kV doc pm an cdv ct us its l1 l2 => match us, its, l1, l2 with | [_, _], [_], _, _ => ⟨_, rfl, rfl⟩
  refine Ev.of (pe_make (C := cR X.K) T.k_Ratio Fk (hr.mono hk) hg T.g_Ratio hB hd pass0 (ea1 ha he) (by decide) he hpl) fun H1 Q k q => ⟨rfl, k, fun vs H2 k2 ⟨v, r, e, p, er⟩ x dx hx hdx hne => ?_⟩
  obtain rfl : r = [] := er
  obtain rfl : v = .int i := p
  subst e
  exact init_post (by decide) (by decide) (fun v H3 k3 hv => q v H3 (k2.trans k3) (by rw [← rat_int i]; exact hv)) x dx hx hdx hne
end
end RR
-- RJ
namespace RR
open PySem PySem.Spec PyProof.Rows L2
section
variable {X : Cx} {pa : Option Addr} {σ : L2.St} {H H' : Hp} {e a b c : Expr} {es : List Expr} {pos p : Pos} {P P' Pa Pb : V → Hp → Prop} {q r : Rat} {i j : Int} {k : Nat}
theorem ev_tup2 {x1} (ha : Ev pa X a σ H Pa) (hb : Ev pa X b σ H Pb) [A : Stb pa Pa] [B : Stb pa Pb] (he : starEach [a, b] X.env = (false, eval a X.env) :: starEach [b] X.env := by rfl) (he2 : starEach [b] X.env = (false, eval b X.env) :: starEach [] X.env := by rfl) :
    Ev pa X (.Tuple [a, b] x1 pos) σ H (Tup2 Pa Pb) :=
  (ev_tup (ea ha (ea hb ea0 he2) he) (fun vs H' _ ⟨_, _, e, _, _, _, e2, _, e3⟩ => by rw [e, e2, show _ = [] from e3]; show 2 ≤ sizeLine; decide)).imp fun v H' _ ⟨t, xs, e, _, h, x, _, e1, px, y, _, e2, py, e3⟩ => ⟨t, x, y, e, by rw [h, e1, e2, show _ = [] from e3], px, py⟩
/-- a def or class by its name -/
theorem ev_own {x : Str} {C : Addr} (hm : X.mg x = some (.ref C)) (hg : Gl X x := by rfl) (hd : (x == ("__debug__" : Str)) = false := by decide) : Ev pa X (.Name x pos) σ H (Is (.ref C)) :=
  ev_glob (v := .ref C) hm rfl hg hd
/-- Ratio op (Ratio or int), by the own method -/
theorem op_own {op : Operator} {f : Addr} {sp : Sp} {fo ro : Option Value} {g : Addr} (T : Txt X.K X.mg) (hs : PySem.W.findIn X.K (.ref (cR X.K)) (PySem.dunder op.info.2) = some (some (.ref f))) (hf : PySem.W.isFn X.K (.ref f) = true)
    (hrr : PySem.W.findIn X.K (.ref (cR X.K)) (dunderR op.info.2) = some (some (.ref g))) (h1 : PySem.W.findIn X.K (.type "int") (PySem.dunder op.info.2) = some fo) (h2 : PySem.W.findIn X.K (.type "int") (dunderR op.info.2) = some ro)
    (C : CalA X.prog X.w X.K X.mg X.base f k sp) (hr : Room k X.A) :
    OpR X (binaryOp op) (fun x y H Q => (∃ q, IsR X.K q x H) ∧ (∃ q, Num X.K q y H) ∧ sp [x, y] H (fun v H' => (∃ p, v = .ref p) ∧ Q v H') E0) := by
  intro pins s σ H x y v u Q I rx ry ⟨⟨q1, a, dx, ea, ha⟩, ⟨q2, hy⟩, hsp⟩
  subst ea
  cases rx
  obtain ⟨mA, J, _⟩ := ins_get I.hok ha
  obtain ⟨od, J, _⟩ := J.look
  obtain ⟨fd, ps, F, kp, hb⟩ := C.ex
  have hl := F.len _ _ _ _ hsp
  have hcall : ∀ u, RelV y u → wpAny (model X.prog X.w) X.A (call (.ref f) [.ref a, u]) (PySem.W.CmpBack (fun v s' => EP X pins σ Q v s')) X.xe s := fun u ry => by
    have r2 : Vals [V.ref a, y] [Value.ref a, u] := .cons rfl (.cons ry .nil)
    refine wpAny_call (codeAny_mono (F.run X.A X.stack s H ⟨[.ref a, u], []⟩ [.ref a, u] [.ref a, y] _ E0 hr I.env0 (by
      have := hb s [.ref a, u] I.kIn (by simpa using hl)
      simpa using this) r2 hsp) fun r s' hq => ?_)
    cases r with
    | error e => exact pass0 pins σ H s e s' I hq
    | ok fl =>
      cases fl with
      | ret w =>
        obtain ⟨z, H', I', rz, ⟨p, ez⟩, ex⟩ := I.after hq
        subst ez
        cases rz
        exact ⟨.ref p, H', I', rfl, ex⟩
      | next => exact False.elim hq
      | brk => exact False.elim hq
      | cont => exact False.elim hq
  obtain ⟨m, fr⟩ := I.fr
  rcases hy with ⟨b, dy, eb, hb'⟩ | ⟨i, ei, _⟩
  · subst eb
    cases ry
    obtain ⟨mB, J', _⟩ := ins_get I.hok hb'
    obtain ⟨od', J', _⟩ := J'.look
    exact PySem.W.binop_K fr I.ok.mod.kin J J'.type T.o_first hs hf (hcall _ rfl)
  · subst ei
    obtain ⟨t, eu⟩ := ry
    subst eu
    exact PySem.W.ksp_binT (T := "int") fr I.ok.mod.kin J rfl T.o_first hs hf hrr (.inr ⟨g, rfl⟩) h1 h2 T.o_sub_ir (hcall _ ⟨t, rfl⟩)

end
section
variable {P : Program} {w : World} {K : PySem.W.Frag} {mg : Str → Option Value} {base : Heap}
theorem c_told_pair (T : Txt K mg) : Cal P w K mg base "told_pair" 2 [] (spN (P1 fun v H Po => ∃ q, Num K q v H ∧ Po = Tup2 (Is (.int q.num)) (Is (.int q.den)))) := by
  refine (def1 (N := ["value"]) T.f_Ftold_pair "value" fun cdv A outer s E H v Po Q hr nd ⟨q, hv, hPo⟩ hQ => ?_).named T.g_told_pair
  subst hPo
  rcases hv with hv | ⟨i, rfl, rfl⟩
  · refine ss_ifb (pa := none) (k := true) (et_val (ev_isi T.n_isinstance (ev_n 0 hv) (ev_own T.g_Ratio) (.own _) T.q_R_R fun v H' _ e => tyR T e)) (fun _ H1 k1 => ?_) (fun h => nomatch h)
    exact ss_ret (pa := none) (ev_tup2 (ev_top T (ev_n 0 (hv.kp k1))) (ev_bot T (ev_n 0 (hv.kp k1)))) fun v H' k p => hQ v H' (k1.trans k) p
  · refine ss_ifF (pa := none) (et_val (ev_isi T.n_isinstance (ev_v 0) (ev_own T.g_Ratio) (.own _) T.q_int_R fun v H' _ e => by rw [show v = _ from e]; exact .base (.int i))) fun H1 k1 => ?_
    refine ss_ifF (pa := none) (et_not (k := true) (et_val (isint_b T hr (ev_v 0)))) fun H2 k2 => ?_
    exact ss_ret (pa := none) (ev_tup2 (ev_v 0) ev_int) fun v H' k p => hQ v H' ((k1.trans k2).trans k) (by rw [Rat.num_intCast, Rat.den_intCast]; exact p)
/-- a method of two numbers -/
def S_bin (K : PySem.W.Frag) (f : Rat → Rat → Rat) : V → V → Hp → PoT → Prop := fun u v H Po => ∃ p q, IsR K p u H ∧ Num K q v H ∧ Sz p ∧ Sz q ∧ Po = IsR K (f p q)
theorem den_mul_ne (p q : Rat) : (p.den : Int) * q.den ≠ 0 := Int.mul_ne_zero (den_ne p) (den_ne q)
theorem cm {i j : Int} (hi : i.natAbs < 2 ^ 4000) (hj : j.natAbs < 2 ^ 4000) : CMulW i j := cmulw (lt9 hi) (lt9 hj)
theorem cnd {i : Int} {n : Nat} (hi : i.natAbs < 2 ^ 4000) (hj : n < 2 ^ 4000) : CMulW i n := cm hi hj
theorem cdn {i : Int} {n : Nat} (hi : n < 2 ^ 4000) (hj : i.natAbs < 2 ^ 4000) : CMulW n i := cm hi hj
theorem cddW {m n : Nat} (hi : m < 2 ^ 4000) (hj : n < 2 ^ 4000) : CMulW m n := cm hi hj
theorem cdd {p q : Rat} (hp : Sz p) (hq : Sz q) : ((p.den : Int) * q.den).natAbs < 2 ^ 9000 := by
  rw [Int.natAbs_mul]
  exact mul8 hp.2 hq.2
theorem a_add (T : Txt K mg) : CalA P w K mg base (d_MRatio_add.adr K) 5 (spN (P2 (S_bin K (· + ·)))) := by
  refine def2 (N := ["self", "other", "top", "bottom"]) T.f_MRatio_add "self" "other" fun cdv A outer s E H u v Po Q hr nd ⟨p, q, hp, hq, sp, sq, hPo⟩ hQ => ?_
  subst hPo
  refine ss_tup (pa := none) 2 3 (ev_c1 (c_told_pair T) hr (by decide) (ev_n 1 hq) fun v H1 _ e => ⟨_, ⟨q, e, rfl⟩, fun _ _ _ h => h⟩) fun x y H1 k1 e1 e2 => ?_
  subst e1
  subst e2
  have hp1 := hp.kp k1
  exact ss_ret (pa := none) (ev_rat2 T hr (den_mul_ne p q) (cdd sp sq)
    (ev_add (ev_mul (cnd sp.1 sq.2) (ev_top T (ev_n 0 hp1)) (ev_v 3)) (ev_mul (cnd sq.1 sp.2) (ev_v 2) (ev_bot T (ev_n 0 hp1))))
    (ev_mul (cddW sp.2 sq.2) (ev_bot T (ev_n 0 hp1)) (ev_v 3))) fun v H2 k2 h => hQ v H2 (k1.trans k2) (by rw [rat_add] at h; exact h)
theorem a_sub (T : Txt K mg) : CalA P w K mg base (d_MRatio_sub.adr K) 5 (spN (P2 (S_bin K (· - ·)))) := by
  refine def2 (N := ["self", "other", "top", "bottom"]) T.f_MRatio_sub "self" "other" fun cdv A outer s E H u v Po Q hr nd ⟨p, q, hp, hq, sp, sq, hPo⟩ hQ => ?_
  subst hPo
  refine ss_tup (pa := none) 2 3 (ev_c1 (c_told_pair T) hr (by decide) (ev_n 1 hq) fun v H1 _ e => ⟨_, ⟨q, e, rfl⟩, fun _ _ _ h => h⟩) fun x y H1 k1 e1 e2 => ?_
  subst e1
  subst e2
  have hp1 := hp.kp k1
  exact ss_ret (pa := none) (ev_rat2 T hr (den_mul_ne p q) (cdd sp sq)
    (ev_sub (ev_mul (cnd sp.1 sq.2) (ev_top T (ev_n 0 hp1)) (ev_v 3)) (ev_mul (cnd sq.1 sp.2) (ev_v 2) (ev_bot T (ev_n 0 hp1))))
    (ev_mul (cddW sp.2 sq.2) (ev_bot T (ev_n 0 hp1)) (ev_v 3))) fun v H2 k2 h => hQ v H2 (k1.trans k2) (by rw [rat_sub] at h; exact h)
theorem a_mul (T : Txt K mg) : CalA P w K mg base (d_MRatio_mul.adr K) 5 (spN (P2 (S_bin K (· * ·)))) := by
  refine def2 (N := ["self", "other", "top", "bottom"]) T.f_MRatio_mul "self" "other" fun cdv A outer s E H u v Po Q hr nd ⟨p, q, hp, hq, sp, sq, hPo⟩ hQ => ?_
  subst hPo
  refine ss_tup (pa := none) 2 3 (ev_c1 (c_told_pair T) hr (by decide) (ev_n 1 hq) fun v H1 _ e => ⟨_, ⟨q, e, rfl⟩, fun _ _ _ h => h⟩) fun x y H1 k1 e1 e2 => ?_
  subst e1
  subst e2
  have hp1 := hp.kp k1
  exact ss_ret (pa := none) (ev_rat2 T hr (den_mul_ne p q) (cdd sp sq)
    (ev_mul (cm sp.1 sq.1) (ev_top T (ev_n 0 hp1)) (ev_v 2))
    (ev_mul (cddW sp.2 sq.2) (ev_bot T (ev_n 0 hp1)) (ev_v 3))) fun v H2 k2 h => hQ v H2 (k1.trans k2) (by rw [rat_mul] at h; exact h)
theorem a_over (T : Txt K mg) : CalA P w K mg base (d_MRatio_over.adr K) 5 (spN (P2 fun u v H Po => ∃ p q, IsR K p u H ∧ Num K q v H ∧ Sz p ∧ Sz q ∧ q ≠ 0 ∧ Po = IsR K (p / q))) := by
  refine def2 (N := ["self", "other", "top", "bottom"]) T.f_MRatio_over "self" "other" fun cdv A outer s E H u v Po Q hr nd ⟨p, q, hp, hq, sp, sq, q0, hPo⟩ hQ => ?_
  subst hPo
  refine ss_tup (pa := none) 2 3 (ev_c1 (c_told_pair T) hr (by decide) (ev_n 1 hq) fun v H1 _ e => ⟨_, ⟨q, e, rfl⟩, fun _ _ _ h => h⟩) fun x y H1 k1 e1 e2 => ?_
  subst e1
  subst e2
  have hn : q.num ≠ 0 := fun z => q0 (num_zero.mp z)
  refine ss_ifF (pa := none) (et_eqI (ev_v 2) ev_int (by simpa using hn)) fun H2 k2 => ?_
  have hp1 := hp.kp (k1.trans k2)
  have hs : ((p.den : Int) * q.num).natAbs < 2 ^ 9000 := by
    rw [Int.natAbs_mul]
    exact mul8 sp.2 sq.1
  exact ss_ret (pa := none) (ev_rat2 T hr (Int.mul_ne_zero (den_ne p) hn) hs
    (ev_mul (cnd sp.1 sq.2) (ev_top T (ev_n 0 hp1)) (ev_v 3))
    (ev_mul (cdn sp.2 sq.1) (ev_bot T (ev_n 0 hp1)) (ev_v 2))) fun v H2 k3 h => hQ v H2 ((k1.trans k2).trans k3) (by rw [rat_over] at h; exact h)
theorem a_eq (T : Txt K mg) : CalA P w K mg base (d_MRatio_eq.adr K) 1 (spN (P2 fun u v H Po => ∃ p q, IsR K p u H ∧ IsR K q v H ∧ Po = Is (.bl (decide (p = q))))) := by
  refine def2 (N := ["self", "other"]) T.f_MRatio_eq "self" "other" fun cdv A outer s E H u v Po Q hr nd ⟨p, q, hp, hq, hPo⟩ hQ => ?_
  subst hPo
  refine ss_ifF (pa := none) (et_not (k := true) (et_val (ev_isi T.n_isinstance (ev_n 1 hq) (ev_own T.g_Ratio) (.own _) T.q_R_R fun v H' _ e => tyR T e))) fun H1 k1 => ?_
  refine ss_ret (pa := none) (ev_and2 (ev_eqI (ev_top T (ev_n 0 (hp.kp k1))) (ev_top T (ev_n 1 (hq.kp k1)))) fun _ => ev_one (ev_eqI (ev_bot T (ev_n 0 (hp.kp k1))) (ev_bot T (ev_n 1 (hq.kp k1))))) fun v H2 k2 e => hQ v H2 (k1.trans k2) ?_
  rw [show v = _ from e]
  show V.bl _ = V.bl _
  congr 1
  rw [← Bool.decide_and]
  refine decide_eq_decide.mpr ⟨fun h => Rat.ext h.1 (Int.ofNat_inj.mp h.2), fun h => by rw [h]; exact ⟨rfl, rfl⟩⟩
end
end RR
-- RK
namespace RR
open PySem PySem.Spec PyProof.Rows L2
section
variable {X : Cx} {pa : Option Addr} {σ : L2.St} {H H' : Hp} {e a b c : Expr} {es : List Expr} {pos p : Pos} {P P' Pa Pb : V → Hp → Prop} {q r : Rat} {i j : Int} {k : Nat}
theorem isR_ref {K : PySem.W.Frag} {v : V} {H : Hp} (h : IsR K q v H) : ∃ p, v = .ref p := let ⟨p, _, e, _⟩ := h; ⟨p, e⟩
theorem ev_rbin {op : Operator} {f g : Addr} {fo ro : Option Value} {F : Rat → Rat → Rat} (T : Txt X.K X.mg) (hs : PySem.W.findIn X.K (.ref (cR X.K)) (PySem.dunder op.info.2) = some (some (.ref f))) (hf : PySem.W.isFn X.K (.ref f) = true)
    (hrr : PySem.W.findIn X.K (.ref (cR X.K)) (dunderR op.info.2) = some (some (.ref g))) (h1 : PySem.W.findIn X.K (.type "int") (PySem.dunder op.info.2) = some fo) (h2 : PySem.W.findIn X.K (.type "int") (dunderR op.info.2) = some ro)
    (C : CalA X.prog X.w X.K X.mg X.base f 5 (spN (P2 (S_bin X.K F)))) (hr : Room k X.A) (hk : 5 ≤ k) (sq : Sz q) (sr : Sz r) (ha : Ev pa X a σ H (IsR X.K q)) (hb : Ev pa X b σ H (Num X.K r)) : Ev pa X (.BinOp a op b pos) σ H (IsR X.K (F q r)) :=
  ev_bin (op_own T hs hf hrr h1 h2 C (hr.mono hk)) ha hb fun x y H2 Q _ px py z => ⟨⟨q, px⟩, ⟨r, py⟩, _, ⟨x, y, rfl, q, r, px, py, sq, sr, rfl⟩, fun v H' k' h => ⟨isR_ref h, z v H' k'.ofN h⟩⟩
theorem ev_radd (T : Txt X.K X.mg) (hr : Room k X.A) (hk : 5 ≤ k) (sq : Sz q) (sr : Sz r) (ha : Ev pa X a σ H (IsR X.K q)) (hb : Ev pa X b σ H (Num X.K r)) : Ev pa X (.BinOp a .Add b pos) σ H (IsR X.K (q + r)) :=
  ev_rbin T T.o_add T.of_add T.or_add T.oi_add T.oj_add (a_add T) hr hk sq sr ha hb
theorem ev_rsub (T : Txt X.K X.mg) (hr : Room k X.A) (hk : 5 ≤ k) (sq : Sz q) (sr : Sz r) (ha : Ev pa X a σ H (IsR X.K q)) (hb : Ev pa X b σ H (Num X.K r)) : Ev pa X (.BinOp a .Sub b pos) σ H (IsR X.K (q - r)) :=
  ev_rbin T T.o_sub T.of_sub T.or_sub T.oi_sub T.oj_sub (a_sub T) hr hk sq sr ha hb
theorem ev_rmul (T : Txt X.K X.mg) (hr : Room k X.A) (hk : 5 ≤ k) (sq : Sz q) (sr : Sz r) (ha : Ev pa X a σ H (IsR X.K q)) (hb : Ev pa X b σ H (Num X.K r)) : Ev pa X (.BinOp a .Mult b pos) σ H (IsR X.K (q * r)) :=
  ev_rbin T T.o_mul T.of_mul T.or_mul T.oi_mul T.oj_mul (a_mul T) hr hk sq sr ha hb
theorem ev_num (h : Ev pa X a σ H (IsR X.K q)) : Ev pa X a σ H (Num X.K q) := h.imp fun _ _ _ p => .inl p
theorem ev_numI (h : Ev pa X a σ H (Is (.int i))) : Ev pa X a σ H (Num X.K (i : Rat)) := h.imp fun _ _ _ p => .inr ⟨i, p, rfl⟩
/-- a.over(b) -/
theorem ev_over {apos : Pos} (T : Txt X.K X.mg) (hr : Room k X.A) (hk : 5 ≤ k) (sq : Sz q) (sr : Sz r) (r0 : r ≠ 0) (ha : Ev pa X a σ H (IsR X.K q)) (hb : Ev pa X b σ H (Num X.K r))
    (hst : starEach [b] X.env = (false, eval b X.env) :: starEach [] X.env := by rfl) (hpl : (backTo pos (starEach [] X.env)).any (·.1) = false := by rfl) {pl : Sem Bool}
    (ht : eval (.Call (.Attribute a "over" apos) [b] [] pos) X.env = (do
      let ov ← eval a X.env
      standAt apos.atName
      let (f, first) ← holding [ov] (getMethod ov "over" pl)
      callWith pos f first (backTo pos (starEach [b] X.env)) (backToKw pos (keywordEach [] X.env))) := by rfl) :
    Ev pa X (.Call (.Attribute a "over" apos) [b] [] pos) σ H (IsR X.K (q / r)) := by
  obtain ⟨fd, ps, F, kp, bd⟩ := (a_over (P := X.prog) (w := X.w) (base := X.base) T).ex
  refine Ev.of (pe_meth (pl := pl) (C := cR X.K) ha T.c_Ratio T.m_over F (hr.mono hk) bd .nil pass0 (ea1 hb hst) hst hpl ht) fun H1 Q k q' => ⟨rfl, k, fun x H2 k2 hx => ?_⟩
  obtain ⟨p, dx, e, hp⟩ := id hx
  refine ⟨p, dx, _, e, hp, rfl, rfl, k.trans k2, fun vs H3 k3 ⟨y, rr, ev, hy, er⟩ => ?_⟩
  obtain rfl : rr = [] := er
  subst ev
  exact ⟨_, ⟨x, y, rfl, q, r, hx.kp k3, hy, sq, sr, r0, rfl⟩, fun v H4 k4 h => q' v H4 ((k2.trans k3).trans k4.ofN) h⟩
/-- Ratio == Ratio -/
theorem op_eqR (T : Txt X.K X.mg) (hr : Room k X.A) (hk : 1 ≤ k) : OpR X (compareOp .Eq) (fun x y H Q => ∃ q r, IsR X.K q x H ∧ IsR X.K r y H ∧ ∀ H', Kp none H H' → Q (.bl (decide (q = r))) H') := by
  intro pins s σ H x y v u Q I rx ry ⟨q, r, hx, hy, hq⟩
  obtain ⟨a, dx, e1, ha⟩ := id hx
  obtain ⟨b, dy, e2, hb'⟩ := id hy
  subst e1
  subst e2
  cases rx
  cases ry
  obtain ⟨mA, J, _⟩ := ins_get I.hok ha
  obtain ⟨mB, J', _⟩ := ins_get I.hok hb'
  obtain ⟨od, J, _⟩ := J.look
  obtain ⟨od', J', _⟩ := J'.look
  obtain ⟨m, hF⟩ := I.fr
  obtain ⟨fd, ps, F, kp, hb⟩ := (a_eq (P := X.prog) (w := X.w) (base := X.base) T).ex
  show wpAny (model X.prog X.w) X.A (richCompare .Eq (.ref a) (.ref b)) (EP X pins σ Q) X.xe s
  refine PySem.W.cmp_K (op := .Eq) (tb := .ref (cR X.K)) (hr.mono hk).units0 hF I.ok.mod.kin J J'.type (by simp [PySem.W.notFirst]) T.o_eq T.of_eq ?_
  have hsp : spN (P2 fun u v H Po => ∃ p q, IsR X.K p u H ∧ IsR X.K q v H ∧ Po = Is (.bl (decide (p = q)))) [.ref a, .ref b] H (fun v H' => v = .bl (decide (q = r)) ∧ Q v H') E0 :=
    ⟨_, ⟨_, _, rfl, q, r, hx, hy, rfl⟩, fun v H' k' e => ⟨e, by rw [show v = _ from e]; exact hq H' k'⟩⟩
  have hl := F.len _ _ _ _ hsp
  have r2 : Vals [V.ref a, V.ref b] [Value.ref a, Value.ref b] := .cons rfl (.cons rfl .nil)
  refine wpAny_call (codeAny_mono (F.run X.A X.stack s H ⟨[.ref a, .ref b], []⟩ [.ref a, .ref b] [.ref a, .ref b] _ E0 (hr.mono hk) I.env0 (by
    have := hb s [.ref a, .ref b] I.kIn (by simpa using hl)
    simpa using this) r2 hsp) fun r s' hq => ?_)
  cases r with
  | error e => exact pass0 pins σ H s e s' I hq
  | ok fl =>
    cases fl with
    | ret w =>
      obtain ⟨z, H', I', rz, ez, ex⟩ := I.after hq
      subst ez
      cases rz
      exact ⟨.bl _, H', I', rfl, ex⟩
    | next => exact False.elim hq
    | brk => exact False.elim hq
    | cont => exact False.elim hq
theorem et_req {z : Bool} (T : Txt X.K X.mg) (hr : Room k X.A) (hk : 1 ≤ k) (ha : Ev pa X a σ H (IsR X.K q)) (hb : Ev pa X b σ H (IsR X.K r)) (hz : decide (q = r) = z) : Eb pa X (.Compare a [.Eq] [b] pos) σ H z :=
  et_cmp (op_eqR T hr hk) (nomark _) ha hb fun x y H2 Q _ px py q' => ⟨q, r, px, py, fun H' k' => q' _ H' k'.ofN hz⟩
/-- a property -/
theorem ev_prop {f : Str} {m g C : Addr} {S : V → Hp → PoT → Prop} {kk : Nat} (c : Cls X.K C) (hp : PropOf X.K C f m g) (CA : CalA X.prog X.w X.K X.mg X.base g kk (spN (P1 S))) (hr : Room k X.A) (hk : kk + 1 ≤ k) (ha : Ev pa X a σ H Pa)
    (h : ∀ v H1, Kp pa H H1 → Pa v H1 → ∃ p dx fs Po, v = .ref p ∧ H1 p = some (.ins C dx fs) ∧ S v H1 Po ∧ ∀ v H2, Kp none H1 H2 → Po v H2 → P v H2) (hab : attributeBase a f X.env (eval a X.env) = eval a X.env := by rfl) : Ev pa X (.Attribute a f pos) σ H P := by
  obtain ⟨fd, ps, F, kp, bd⟩ := CA.ex
  refine Ev.of (pe_prop ha c hp F (hr.mono hk) bd .nil pass0 hab) fun H1 Q k q' => ⟨rfl, k, fun x H2 k2 hx => ?_⟩
  obtain ⟨p, dx, fs, Po, e, hp, s, z⟩ := h x H2 (k.trans k2) hx
  exact ⟨p, dx, fs, e, hp, Po, ⟨x, by rw [e], s⟩, fun v H3 k3 h => q' v H3 (k2.trans k3.ofN) (z v H3 k3 h)⟩
end
section
variable {P : Program} {w : World} {K : PySem.W.Frag} {mg : Str → Option Value} {base : Heap}
theorem a_ptop (T : Txt K mg) : CalA P w K mg base (d_PRatio_top.adr K) 1 (spN (P1 fun v H Po => ∃ q, IsR K q v H ∧ Po = Is (.int q.num))) := by
  refine def1 (N := ["self"]) T.f_PRatio_top "self" fun cdv A outer s E H v Po Q hr nd ⟨q, hv, hPo⟩ hQ => ?_
  subst hPo
  exact ss_ret (pa := none) (ev_top T (ev_n 0 hv)) hQ
theorem a_pbot (T : Txt K mg) : CalA P w K mg base (d_PRatio_bottom.adr K) 1 (spN (P1 fun v H Po => ∃ q, IsR K q v H ∧ Po = Is (.int q.den))) := by
  refine def1 (N := ["self"]) T.f_PRatio_bottom "self" fun cdv A outer s E H v Po Q hr nd ⟨q, hv, hPo⟩ hQ => ?_
  subst hPo
  exact ss_ret (pa := none) (ev_bot T (ev_n 0 hv)) hQ
theorem a_psign (T : Txt K mg) : CalA P w K mg base (d_PRatio_sign.adr K) 1 (spN (P1 fun v H Po => ∃ q, IsR K q v H ∧ Po = Is (.int (sgn q)))) := by
  refine def1 (N := ["self"]) T.f_PRatio_sign "self" fun cdv A outer s E H v Po Q hr nd ⟨q, hv, hPo⟩ hQ => ?_
  subst hPo
  exact ss_ret (pa := none) (ev_sub (ev_intB T.n_int (ev_gt (ev_top T (ev_n 0 hv)) ev_int)) (ev_intB T.n_int (ev_lt (ev_top T (ev_n 0 hv)) ev_int))) hQ
end
section
variable {X : Cx} {pa : Option Addr} {σ : L2.St} {H H' : Hp} {e a b c : Expr} {es : List Expr} {pos p : Pos} {P P' Pa Pb : V → Hp → Prop} {q r : Rat} {i j : Int} {k : Nat}
theorem ev_sign (T : Txt X.K X.mg) (hr : Room k X.A) (hk : 2 ≤ k) (ha : Ev pa X a σ H (IsR X.K q)) (hab : attributeBase a "sign" X.env (eval a X.env) = eval a X.env := by rfl) : Ev pa X (.Attribute a "sign" pos) σ H (Is (.int (sgn q))) :=
  ev_prop T.c_Ratio T.p_Ratio_sign (a_psign T) hr hk ha (fun v H1 _ h => by
    obtain ⟨p, dx, e, hp⟩ := id h
    exact ⟨p, dx, _, _, e, hp, ⟨q, h, rfl⟩, fun _ _ _ z => z⟩) hab
theorem ev_ptop (T : Txt X.K X.mg) (hr : Room k X.A) (hk : 2 ≤ k) (ha : Ev pa X a σ H (IsR X.K q)) (hab : attributeBase a "top" X.env (eval a X.env) = eval a X.env := by rfl) : Ev pa X (.Attribute a "top" pos) σ H (Is (.int q.num)) :=
  ev_prop T.c_Ratio T.p_Ratio_top (a_ptop T) hr hk ha (fun v H1 _ h => by
    obtain ⟨p, dx, e, hp⟩ := id h
    exact ⟨p, dx, _, _, e, hp, ⟨q, h, rfl⟩, fun _ _ _ z => z⟩) hab
theorem ev_pbot (T : Txt X.K X.mg) (hr : Room k X.A) (hk : 2 ≤ k) (ha : Ev pa X a σ H (IsR X.K q)) (hab : attributeBase a "bottom" X.env (eval a X.env) = eval a X.env := by rfl) : Ev pa X (.Attribute a "bottom" pos) σ H (Is (.int q.den)) :=
  ev_prop T.c_Ratio T.p_Ratio_bottom (a_pbot T) hr hk ha (fun v H1 _ h => by
    obtain ⟨p, dx, e, hp⟩ := id h
    exact ⟨p, dx, _, _, e, hp, ⟨q, h, rfl⟩, fun _ _ _ z => z⟩) hab
end
section
variable {P : Program} {w : World} {K : PySem.W.Frag} {mg : Str → Option Value} {base : Heap}
theorem c_is_number (T : Txt K mg) : Cal P w K mg base "is_number" 2 [] (spN (P1 fun v H Po => ∃ q, Num K q v H ∧ Po = Is (.bl true))) := by
  refine (def1 (N := ["value"]) T.f_Fis_number "value" fun cdv A outer s E H v Po Q hr nd ⟨q, hv, hPo⟩ hQ => ?_).named T.g_is_number
  subst hPo
  rcases hv with hv | ⟨i, rfl, rfl⟩
  · exact ss_ret (pa := none) (ev_or2 (k := false) (k' := true) (ev_c1 (c_is_integer T) hr (by decide) (ev_n 0 hv) fun v H1 _ e => ⟨_, ⟨false, .inr ⟨q, e, rfl⟩, rfl⟩, fun _ _ _ h => h⟩) fun _ => ev_one (ev_isi T.n_isinstance (ev_n 0 hv) (ev_own T.g_Ratio) (.own _) T.q_R_R fun v H' _ e => tyR T e)) hQ
  · exact ss_ret (pa := none) (ev_or2 (k := true) (k' := true) (isint_b T hr (ev_v 0)) fun h => nomatch h) hQ
theorem c_ratio_of (T : Txt K mg) : Cal P w K mg base "ratio_of" 5 [] (spN (P1 fun v H Po => ∃ q, Num K q v H ∧ Po = IsR K q)) := by
  refine (def1 (N := ["number"]) T.f_Fratio_of "number" fun cdv A outer s E H v Po Q hr nd ⟨q, hv, hPo⟩ hQ => ?_).named T.g_ratio_of
  subst hPo
  rcases hv with hv | ⟨i, rfl, rfl⟩
  · exact ss_ret (pa := none) (ev_if (k := true) (et_val (ev_isi T.n_isinstance (ev_n 0 hv) (ev_own T.g_Ratio) (.own _) T.q_R_R fun v H' _ e => tyR T e)) (fun _ => ev_n 0 hv) fun h => nomatch h) hQ
  · exact ss_ret (pa := none) (ev_if (k := false) (et_val (ev_isi T.n_isinstance (ev_v 0) (ev_own T.g_Ratio) (.own _) T.q_int_R fun v H' _ e => by rw [show v = _ from e]; exact .base (.int i))) (fun h => nomatch h) fun _ => ev_rat1 T hr (ev_v 0)) hQ
end
end RR
-- RN
namespace RR
open PySem PySem.Spec PyProof.Rows L2
/-! ### rows of numbers -/
def tl (c : Nat → Rat) : Nat → Nat
  | 0 => 0
  | n + 1 => if c n = 0 then tl c n else n + 1
theorem tl_le (c : Nat → Rat) : ∀ n, tl c n ≤ n
  | 0 => Nat.le_refl _
  | n + 1 => by
    unfold tl
    split
    · exact Nat.le_succ_of_le (tl_le c n)
    · exact Nat.le_refl _
def trim (qs : List Rat) : List Rat := qs.take (tl (fun i => qs.getD i 0) qs.length)
theorem getD_ge {qs : List Rat} {i : Nat} (h : qs.length ≤ i) : qs.getD i 0 = 0 := by
  rw [List.getD_eq_getElem?_getD, List.getElem?_eq_none h]
  rfl
/-- n numbers, by their places -/
def mk (n : Nat) (f : Nat → Rat) : List Rat := (List.range n).map f
theorem mk_len {n : Nat} {f : Nat → Rat} : (mk n f).length = n := by simp [mk]
theorem mk_get {n : Nat} {f : Nat → Rat} {i : Nat} (h : i < n) : (mk n f).getD i 0 = f i := by simp [mk, List.getD, h]
theorem mk_get' {n : Nat} {f : Nat → Rat} {i : Nat} : (mk n f).getD i 0 = if i < n then f i else 0 := by
  by_cases h : i < n
  · rw [if_pos h, mk_get h]
  · rw [if_neg h, getD_ge]
    rw [mk_len]; omega
def SzL (qs : List Rat) : Prop := ∀ i, Sz (qs.getD i 0)
theorem Sz.zero : Sz 0 := ⟨by decide, by decide⟩
theorem szl_trim {qs : List Rat} (h : SzL qs) : SzL (trim qs) := fun i => by
  unfold trim
  by_cases hi : i < tl (fun i => qs.getD i 0) qs.length
  · have : (List.take (tl (fun i => qs.getD i 0) qs.length) qs).getD i 0 = qs.getD i 0 := by
      rw [List.getD_eq_getElem?_getD, List.getElem?_take, if_pos hi, ← List.getD_eq_getElem?_getD]
    rw [this]; exact h i
  · rw [getD_ge]
    · exact Sz.zero
    · rw [List.length_take]; omega
theorem trim_len (qs : List Rat) : (trim qs).length = tl (fun i => qs.getD i 0) qs.length := by
  unfold trim
  rw [List.length_take]
  exact Nat.min_eq_left (tl_le _ _)
theorem trim_le (qs : List Rat) : (trim qs).length ≤ qs.length := by rw [trim_len]; exact tl_le _ _

/-- the values of a row -/
def RVs (K : PySem.W.Frag) (qs : List Rat) : List V → Hp → Prop := Each qs.length (fun i => IsR K (qs.getD i 0))
def NVs (K : PySem.W.Frag) (qs : List Rat) : List V → Hp → Prop := Each qs.length (fun i => Num K (qs.getD i 0))
instance {K : PySem.W.Frag} {qs : List Rat} {pa : Option Addr} : StbA pa (RVs K qs) := inferInstanceAs (StbA pa (Each _ _))
instance {K : PySem.W.Frag} {qs : List Rat} {pa : Option Addr} : StbA pa (NVs K qs) := inferInstanceAs (StbA pa (Each _ _))
theorem RVs.num {K : PySem.W.Frag} {qs : List Rat} {xs : List V} {H : Hp} (h : RVs K qs xs H) : NVs K qs xs H := ⟨h.1, fun i y e => .inl (h.2 i y e)⟩
/-- a list of Ratios -/
def RL (K : PySem.W.Frag) (qs : List Rat) : V → Hp → Prop := fun v H => ∃ p xs, v = .ref p ∧ H p = some (.lst xs) ∧ RVs K qs xs H
/-- a list or tuple of numbers -/
def NLT (K : PySem.W.Frag) (qs : List Rat) : V → Hp → Prop := fun v H => ∃ xs, LT xs v H ∧ NVs K qs xs H
section
variable {K : PySem.W.Frag} {qs : List Rat} {pa : Option Addr} {H0 H H1 H2 : Hp} {v : V}
theorem RVs.notPot {xs : List V} (h : RVs K qs xs H) : ¬ isPot (.lst xs) := by
  intro z
  match xs, z with
  | [.int x, .int y], _ =>
    obtain ⟨p, dx, e, _⟩ := h.2 0 (.int x) rfl
    cases e
theorem RL.kp (h : RL K qs v H1) (k : Kp pa H1 H2) : RL K qs v H2 := by
  obtain ⟨p, xs, e, hp, r⟩ := h
  exact ⟨p, xs, e, k.get hp r.notPot, StbA.st _ _ _ k r⟩
instance : Stb pa (RL K qs) := ⟨fun _ _ _ k h => h.kp k⟩
instance : Stb pa (NL H0 (RVs K qs)) := ⟨fun v H1 H2 k ⟨p, xs, e, n, h, r⟩ => ⟨p, xs, e, n, k.get h r.notPot, StbA.st _ _ _ k r⟩⟩
instance : Stb none (NLT K qs) := ⟨fun v H1 H2 k ⟨xs, l, r⟩ => ⟨xs, Stb.st _ _ _ k l, StbA.st _ _ _ k r⟩⟩
theorem NL.rl (h : NL H0 (RVs K qs) v H) : RL K qs v H := let ⟨p, xs, e, _, hp, r⟩ := h; ⟨p, xs, e, hp, r⟩
theorem RL.nlt (h : RL K qs v H) : NLT K qs v H := let ⟨p, xs, e, hp, r⟩ := h; ⟨xs, ⟨p, e, .inl hp⟩, r.num⟩
theorem each_mk {n : Nat} {f : Nat → Rat} {xs : List V} (h : Each n (fun i => IsR K (f i)) xs H) : RVs K (mk n f) xs H := by
  refine ⟨by rw [h.1, mk_len], fun i y e => ?_⟩
  have hi : i < n := by rw [← h.1]; exact (List.getElem?_eq_some_iff.mp e).1
  show IsR K ((mk n f).getD i 0) y H
  rw [mk_get hi]
  exact h.2 i y e
theorem nl_mk {n : Nat} {f : Nat → Rat} (h : NL H0 (Each n (fun i => IsR K (f i))) v H) : NL H0 (RVs K (mk n f)) v H :=
  let ⟨p, xs, e, n, hp, r⟩ := h; ⟨p, xs, e, n, hp, each_mk r⟩
theorem NL.mono {R : List V → Hp → Prop} {H0' : Hp} (h : NL H0 R v H) (k : ∀ p, H0 p = none → H0' p = none) : NL H0' R v H :=
  let ⟨p, xs, e, n, hp, r⟩ := h; ⟨p, xs, e, k p n, hp, r⟩
theorem NL.back {R : List V → Hp → Prop} {H0' : Hp} (h : NL H0 R v H) (k : Kp pa H0' H0) : NL H0' R v H := h.mono fun _ n => k.free n
end
theorem ixN_nat {n i : Nat} (h : i < n) : ixN n (i : Int) = some i := by
  unfold ixN
  rw [if_pos (by omega), if_pos (by omega), Int.toNat_natCast]
theorem ixN_last {n : Nat} (h : 0 < n) : ixN n (-1) = some (n - 1) := by
  unfold ixN
  rw [if_neg (by omega), if_pos (by omega)]
  congr 1
  omega
section
variable {X : Cx} {pa : Option Addr} {σ : L2.St} {H H' : Hp} {e a b c : Expr} {es : List Expr} {pos p : Pos} {P P' Pa Pb : V → Hp → Prop} {q r : Rat} {i j : Int} {k : Nat} {qs : List Rat} {sts rest A B : List Stmt} {D : Ends}
theorem ev_rl {H0 : Hp} (h : Ev pa X a σ H (NL H0 (RVs X.K qs))) : Ev pa X a σ H (RL X.K qs) := h.imp fun _ _ _ p => p.rl
/-- xs[i] of a row -/
theorem ev_ixR (ha : Ev pa X a σ H (RL X.K qs)) (hb : Ev pa X b σ H (Is (.int i))) (n : Nat) (hi : ixN qs.length i = some n) (hs : PlainIx b := by intro _ _; rfl) : Ev pa X (.Subscript a b pos) σ H (IsR X.K (qs.getD n 0)) :=
  ev_ix ha hb (fun v H' _ ⟨p, xs, e, hp, r⟩ => by
    have hn : n < qs.length := (ixN_seq hi).2.1
    have hx : n < xs.length := by rw [r.1]; exact hn
    refine ⟨p, xs, xs[n], e, SqL.of hp, ?_, r.2 n _ (List.getElem?_eq_getElem hx)⟩
    unfold atI
    rw [r.1, hi]
    exact List.getElem?_eq_getElem hx) hs
theorem ev_lenR {p : Pos} (hm : X.mg "len" = none) (ha : Ev pa X a σ H (RL X.K qs)) (hg : Gl X "len" := by rfl) (he : starEach [a] X.env = (false, eval a X.env) :: starEach [] X.env := by rfl) (hpl : (backTo pos (starEach [] X.env)).any (·.1) = false := by rfl) :
    Ev pa X (.Call (.Name "len" p) [a] [] pos) σ H (Is (.int qs.length)) :=
  ev_len hm ha (fun v H' _ ⟨p, xs, e, hp, r⟩ => ⟨p, xs, e, .inl (SqL.of hp), r.1⟩) hg he hpl
theorem ev_lenLT {xs : List V} {p : Pos} (hm : X.mg "len" = none) (ha : Ev pa X a σ H (LT xs)) (hg : Gl X "len" := by rfl) (he : starEach [a] X.env = (false, eval a X.env) :: starEach [] X.env := by rfl) (hpl : (backTo pos (starEach [] X.env)).any (·.1) = false := by rfl) :
    Ev pa X (.Call (.Name "len" p) [a] [] pos) σ H (Is (.int xs.length)) :=
  ev_len hm ha (fun v H' _ ⟨p, e, h⟩ => ⟨p, xs, e, h.imp SqL.of SqT.of, rfl⟩) hg he hpl
/-- all([..]) of bools that are known -/
theorem ev_all {bs : List Bool} {p : Pos} (hm : X.mg "all" = none) (ha : Ev pa X a σ H P) (h : ∀ v H', Kp pa H H' → P v H' → ∃ q, v = .ref q ∧ SqL X.K H' q (bs.map V.bl)) (hc : X.calm = true := by rfl)
    (hg : Gl X "all" := by rfl) (he : starEach [a] X.env = (false, eval a X.env) :: starEach [] X.env := by rfl) (hpl : (backTo pos (starEach [] X.env)).any (·.1) = false := by rfl) : Ev pa X (.Call (.Name "all" p) [a] [] pos) σ H (Is (.bl (bs.all id))) :=
  ev_blt1 (cr_all hc) (by decide +kernel) hm (ea1 ha he) (fun vs H1 Q k ⟨v, r, e, p, er⟩ q => by
    obtain rfl : r = [] := er
    obtain ⟨p', ev, s⟩ := h v H1 k p
    exact ⟨p', bs, by rw [e, ev], s, q _ H1 (Kp.refl _) rfl⟩) hg (by decide) (by decide) he hpl
theorem each_true {n : Nat} {ys : List V} {H : Hp} (h : Each n (fun _ => Is (.bl true)) ys H) : ys = (List.replicate n true).map V.bl := by
  rw [List.map_replicate]
  refine List.eq_replicate_iff.mpr ⟨h.1, fun b hb => ?_⟩
  obtain ⟨i, hi⟩ := List.getElem?_of_mem hb
  exact h.2 i b hi
theorem ev_allT {n : Nat} {p : Pos} (hm : X.mg "all" = none) {H0 : Hp} (ha : Ev pa X a σ H (NL H0 (Each n (fun _ => Is (.bl true))))) (hc : X.calm = true := by rfl)
    (hg : Gl X "all" := by rfl) (he : starEach [a] X.env = (false, eval a X.env) :: starEach [] X.env := by rfl) (hpl : (backTo pos (starEach [] X.env)).any (·.1) = false := by rfl) : Ev pa X (.Call (.Name "all" p) [a] [] pos) σ H (Is (.bl true)) :=
  (ev_all (bs := List.replicate n true) hm ha (fun v H' _ ⟨q, xs, e, _, hq, r⟩ => ⟨q, e, by rw [← each_true r]; exact SqL.of hq⟩) hc hg he hpl).imp fun v H' _ e => by
    rw [show v = _ from e]
    show V.bl _ = V.bl true
    rw [List.all_replicate]
    simp
/-- [elt for x in a tuple] -/
theorem ev_lcT (i : Nat) {iter elt : Expr} {x : Str} {px : Pos} {scope : Scope} (xs : List V) (R : Nat → V → Hp → Prop) [S : ∀ i, Stb pa (R i)] [L : ∀ i, StbL (R i)] (hi : Ev pa X iter σ H Pa) (hp : PotOk pa H) (hlen : xs.length ≤ 100000)
    (h0 : ∀ v H', Kp pa H H' → Pa v H' → ∃ a, v = .ref a ∧ ∀ H'', Kp pa H' H'' → SqT X.K H'' a xs)
    (he : ∀ n w H', xs[n]? = some w → Kp pa H H' → InBlk pa X scope elt ((σ.set i none).set i (some w)) H' (R n))
    (hx : X.N[i]? = some x := by rfl) (hN : X.N.Nodup := by assumption) (hc : X.calm = true := by rfl)
    (ok : BlkOk X.N X.env.scope scope [(x, i)] := by exact blkOk_by (by kernel_rfl))
    (hg : ∀ (s : Shared) (H : Hp) (C : Addr) (cl : List (Str × Addr)) (fp : List Addr), PG (X.blk s H scope (compEnvC scope cl C X.env) fp) (.Name x px) (gName i) := by intro _ _ _ _ _; exact pg_name (by assumption) rfl (Or.inl rfl))
    (hs : ∀ x, foldedSetIterable iter X.env x = pure x := by intro _; rfl) :
    Ev pa X (.ListComp elt [⟨.Name x px, iter, [], 0⟩] scope pos) σ H (NL H (Each xs.length R)) := by
  refine Ev.of (pe_lc (own := [(x, i)]) (g := gName i) (tt := tYes) (te := tBlk pa X scope elt) hc hN (pi_tup hi) ok hg (fun _ _ _ _ _ => pts_nil) (fun s H0 C cl fp => tBlk_ok s H0 C cl fp) hs) fun H1 Q k q => ⟨rfl, k, fun v H2 k2 p => ?_⟩
  obtain ⟨a, e, hsq⟩ := h0 v H2 (k.trans k2) p
  refine ⟨a, e, ⟨xs, hsq H2 (Kp.refl _)⟩, fun D hD => ?_⟩
  have hp2 : PotOk pa H2 := hp.at (k.trans k2)
  refine lc_tup (K := X.K) (a := a) (xs := xs) (g := gName i) (tt := tYes) (te := tBlk pa X scope elt) (vs := [i]) (LcInv pa H2 D R) (LcInv.start hD) (fun n H' _ w => hsq H' w.kp) (fun n y H' hy w => ?_) (fun H' w => q _ _ (k2.trans w.kp) (w.done ((k.trans k2).free hD)))
  refine And.intro (by show (((σ.set i none).set i (some y)).set i none) = σ.set i none; simp) ?_
  refine ⟨R n, he n y H' hy (((k.trans k2)).trans w.kp), fun z H4 k4 hz => ?_⟩
  have hn : n < xs.length := (List.getElem?_eq_some_iff.mp hy).1
  exact w.step hD hp2 k4 hz (by omega)
/-- [elt for x in a list or a tuple] -/
theorem ev_lcLT (i : Nat) {iter elt : Expr} {x : Str} {px : Pos} {scope : Scope} {xs : List V} {v0 : V} (R : Nat → V → Hp → Prop) [S : ∀ i, Stb none (R i)] [L : ∀ i, StbL (R i)] (hi : Ev none X iter σ H (Is v0)) (h0 : LT xs v0 H) (hlen : xs.length ≤ 100000)
    (he : ∀ n w H', xs[n]? = some w → Kp none H H' → InBlk none X scope elt ((σ.set i none).set i (some w)) H' (R n))
    (hx : X.N[i]? = some x := by rfl) (hN : X.N.Nodup := by assumption) (hc : X.calm = true := by rfl)
    (ok : BlkOk X.N X.env.scope scope [(x, i)] := by exact blkOk_by (by kernel_rfl))
    (hg : ∀ (s : Shared) (H : Hp) (C : Addr) (cl : List (Str × Addr)) (fp : List Addr), PG (X.blk s H scope (compEnvC scope cl C X.env) fp) (.Name x px) (gName i) := by intro _ _ _ _ _; exact pg_name (by assumption) rfl (Or.inl rfl))
    (hs : ∀ x, foldedSetIterable iter X.env x = pure x := by intro _; rfl) :
    Ev none X (.ListComp elt [⟨.Name x px, iter, [], 0⟩] scope pos) σ H (NL H (Each xs.length R)) := by
  obtain ⟨p, rfl, h⟩ := h0
  rcases h with h | h
  · exact ev_lcL i xs R hi potN hlen (fun v H' k e => ⟨p, e, fun H'' k2 => SqL.of ((k.trans k2).get0 h)⟩) he hx hN hc ok hg hs
  · exact ev_lcT i xs R hi potN hlen (fun v H' k e => ⟨p, e, fun H'' k2 => SqT.of ((k.trans k2).get0 h)⟩) he hx hN hc ok hg hs
/-- o.append(e) -/
theorem ss_append {o : Expr} {apos cpos : Pos} (ho : Ev pa X o σ H Pa) (he : Ev pa X e σ H Pb) [S : Stb pa Pa]
    (k : ∀ v u H', Kp pa H H' → Pa v H' → Pb u H' → ∃ l xs, v = .ref l ∧ H' l = some (.lst xs) ∧ xs.length < sizeLine ∧ Ss X rest σ (upd H' l (.lst (xs ++ [u]))) D)
    (hy : ∀ v H', Kp pa H H' → Pa v H' → ∃ l xs, v = .ref l ∧ H' l = some (.lst xs))
    (hbase : attributeBase o "append" X.env (eval o X.env) = eval o X.env := by rfl)
    (hfew : ((backTo cpos (starEach [e] X.env)).all (fun x => !x.1) && (backToKw cpos (keywordEach [] X.env)).all (fun x => x.1.isSome)
      && decide (([e] : List Expr).length + ([] : List Keyword).length + (if ([] : List Keyword).isEmpty then 0 else 1) < 30)) = true := by rfl)
    (hline : (apos.endLine == cpos.line) = true := by rfl) (hs : starEach [e] X.env = (false, eval e X.env) :: starEach [] X.env := by rfl) (hplain : (backTo cpos (starEach [] X.env)).any (·.1) = false := by rfl)
    (hsw : swapsWith (.Call (.Attribute o "append" apos) [e] [] cpos) none pos.line X.env = pure false := by rfl) :
    Ss X (.Expr (.Call (.Attribute o "append" apos) [e] [] cpos) pos :: rest) σ H D :=
  ss_cons (ps_expr (pe_bm PySem.F.plainAttrs_list PySem.F.slot_list_append PySem.F.type_list_append mt_append ho (ea1 he hs) hbase hfew hline hs hplain) hsw) ⟨rfl, Kp.refl _, fun v H2 k2 p => by
    obtain ⟨l, xs, ev, hl⟩ := hy v H2 k2 p
    subst ev
    refine ⟨.inl ⟨rfl, xs, SqL.of hl⟩, rfl, k2, fun vs H3 k3 ⟨u, r, e1, pu, er⟩ => ?_⟩
    obtain rfl : r = [] := er
    subst e1
    obtain ⟨l', xs', e2, hl', hz, q⟩ := k _ u H3 (k2.trans k3) (S.st _ _ _ k3 p) pu
    exact ⟨l', xs', u, e2, rfl, hl', hz, q⟩⟩
end
end RR
-- RO
namespace RR
open PySem PySem.Spec PyProof.Rows L2
theorem cut_take {xs : List V} {m : Nat} (h : m ≤ xs.length) : cutV xs none (some (m : Int)) = xs.take m := by
  unfold cutV
  rw [HT.sIx_none, HT.sIx_nat, List.drop_zero]
  rw [Nat.sub_zero, Nat.min_eq_left h]
theorem rvs_take {K : PySem.W.Frag} {qs : List Rat} {xs : List V} {H : Hp} {m : Nat} (h : RVs K qs xs H) (hm : m ≤ qs.length) : RVs K (qs.take m) (xs.take m) H := by
  refine ⟨by rw [List.length_take, List.length_take, h.1], fun i y e => ?_⟩
  rw [List.getElem?_take] at e
  by_cases hi : i < m
  · rw [if_pos hi] at e
    show IsR K ((qs.take m).getD i 0) y H
    rw [List.getD_eq_getElem?_getD, List.getElem?_take, if_pos hi, ← List.getD_eq_getElem?_getD]
    exact h.2 i y e
  · rw [if_neg hi] at e
    cases e
section
variable {P : Program} {w : World} {K : PySem.W.Frag} {mg : Str → Option Value} {base : Heap}
theorem c_trimmed (T : Txt K mg) : Cal P w K mg base "trimmed" 1 [] (spN (P1 fun v H Po => ∃ qs, RL K qs v H ∧ qs.length ≤ 1000 ∧ Po = NL H (RVs K (trim qs)))) := by
  refine (def1 (N := ["ratios", "many"]) T.f_Ftrimmed "ratios" fun cdv A outer s E H v Po Q hr nd ⟨qs, hv, hlen, hPo⟩ hQ => ?_).named T.g_trimmed
  subst hPo
  refine ss_set (pa := none) 1 (ev_lenR T.n_len (ev_n 0 hv)) fun u H1 k1 e1 => ?_
  subst e1
  refine ss_while (pa := none) (fun n σ H' => ∃ m, n = m ∧ m ≤ qs.length ∧ σ = [some v, some (V.int m)] ∧ Kp none H H' ∧ tl (fun i => qs.getD i 0) m = tl (fun i => qs.getD i 0) qs.length) qs.length ⟨_, rfl, Nat.le_refl _, rfl, k1, rfl⟩ fun n σ' H' ⟨m, e, hm, hσ, k2, ht⟩ => ?_
  subst e
  subst hσ
  have hv2 := hv.kp k2
  refine ⟨_, (ew_and2 (k := decide ((0 : Int) < n)) (k' := decide ((qs.getD (n - 1) 0).num = 0)) (et_gt (ev_v 1) ev_int rfl) fun h0 => ew_and1 (et_eqI (ev_top T (ev_ixR (ev_n 0 hv2) (ev_sub (ev_v 1) ev_int) (n - 1) ?_)) ev_int rfl)).et, fun H3 k3 e3 => ?_, fun H3 k3 e3 => ?_⟩
  · have := of_decide_eq_true h0
    have e : ((n : Int) - 1) = ((n - 1 : Nat) : Int) := by omega
    rw [e]
    exact ixN_nat (by omega)
  · obtain ⟨h0, h1⟩ := Bool.and_eq_true_iff.mp e3.symm
    have h0 := of_decide_eq_true h0
    have h1 := of_decide_eq_true h1
    refine ss_set (pa := none) 1 (ev_sub (ev_v 1) ev_int) fun u H4 k4 e4 => ss_nil ?_
    subst e4
    have e : ((n : Int) - 1) = ((n - 1 : Nat) : Int) := by omega
    refine ⟨n - 1, by omega, n - 1, rfl, by omega, by rw [e]; rfl, (k2.trans k3).trans k4, ?_⟩
    rw [← ht]
    have e2 : n = (n - 1) + 1 := by omega
    conv => rhs; rw [e2]
    show _ = if qs.getD (n - 1) 0 = 0 then _ else _
    rw [if_pos (num_zero.mp h1)]
  · have et : tl (fun i => qs.getD i 0) n = n := by
      cases n with
      | zero => rfl
      | succ n =>
        show (if qs.getD n 0 = 0 then _ else _) = _
        rw [if_neg]
        intro z
        have e3 : false = (decide ((0 : Int) < ((n + 1 : Nat) : Int)) && decide ((qs.getD (n + 1 - 1) 0).num = 0)) := e3
        rw [decide_eq_true (by omega), Nat.add_sub_cancel, decide_eq_true (num_zero.mpr z)] at e3
        cases e3
    refine ss_ret (pa := none) (ev_listOf (P := NL H (RVs K (trim qs))) T.n_list (ev_sl (P := fun v H' => ∃ p xs, v = .ref p ∧ H' p = some (.lst xs) ∧ RVs K (trim qs) xs H') (ev_n 0 (hv2.kp k3)) eo_none (eo_some (ev_v 1)) fun v' H' _ ⟨p, xs, e, hp, r⟩ => ⟨p, xs, e, SqL.of hp, fun q hq => ⟨q, _, rfl, upd_same, ?_⟩⟩)
      fun v' H' k4 ⟨p, xs, e, hp, r⟩ => ⟨p, xs, e, .inl (SqL.of hp), fun q hq => ⟨q, xs, rfl, ((k2.trans k3).trans k4).free hq, upd_same, StbA.st _ _ _ (Kp.new (pa := none) hq) r⟩⟩) fun v' H4 k4 h => hQ v' H4 ((k2.trans k3).trans k4) h
    rw [cut_take (by rw [r.1]; exact hm)]
    unfold trim
    rw [← ht, et]
    exact rvs_take (StbA.st (pa := none) _ _ _ (Kp.new hq) r) hm
theorem c_is_poly (T : Txt K mg) : Cal P w K mg base "is_poly" 3 [] (spN (P1 fun v H Po => ∃ qs, NLT K qs v H ∧ qs.length ≤ 61 ∧ Po = Is (.bl true))) := by
  refine (def1 (N := ["value", "number"]) T.f_Fis_poly "value" fun cdv A outer s E H v Po Q hr nd ⟨qs, ⟨xs, hv, hn⟩, hlen, hPo⟩ hQ => ?_).named T.g_is_poly
  subst hPo
  obtain ⟨tk, i61⟩ := T.i_MOST_NUMBERS
  refine ss_ret (pa := none) (ev_and2 (k := true) (k' := true && true) (ev_c1 (c_is_list T) hr (by decide) (ev_n 0 hv) fun u H1 _ h => ⟨_, ⟨⟨xs, h⟩, rfl⟩, fun _ _ _ h => h⟩) fun _ => ev_and2 (k := true) (k' := true) ?_ fun _ => ev_one ?_) hQ
  · refine (ev_le (i := xs.length) (j := 61) (ev_lenLT T.n_len (ev_n 0 hv)) (ev_glob (v := .int 61) i61 ⟨_, rfl⟩)).imp fun v H' _ e => ?_
    rw [show v = _ from e, decide_eq_true]
    · rfl
    · have := hn.1
      omega
  · refine ev_allT (n := xs.length) T.n_all (ev_lcLT 1 (fun _ => Is (.bl true)) (ev_v 0) hv (by have := hn.1; omega) fun n y H' hy k s0 H0 C cl fp => ?_)
    exact ev_c1 (c_is_number T) hr (by decide) (ev_n (P := Num K (qs.getD n 0)) 1 (Stb.st (pa := none) _ _ _ k (hn.2 n y hy))) fun v H1 _ h => ⟨_, ⟨_, h, rfl⟩, fun _ _ _ h => h⟩
theorem c_want_poly (T : Txt K mg) : Cal P w K mg base "want_poly" 6 [] (spN (P1 fun v H Po => ∃ qs, NLT K qs v H ∧ qs.length ≤ 61 ∧ Po = NL H (RVs K (trim qs)))) := by
  refine (def1 (N := ["value", "number"]) T.f_Fwant_poly "value" fun cdv A outer s E H v Po Q hr nd ⟨qs, ⟨xs, hv, hn⟩, hlen, hPo⟩ hQ => ?_).named T.g_want_poly
  subst hPo
  refine ss_ifF (pa := none) (et_not (k := true) (et_val (ev_c1 (c_is_poly T) hr (by decide) (ev_n (P := NLT K qs) 0 ⟨xs, hv, hn⟩) fun u H1 _ h => ⟨_, ⟨qs, h, hlen, rfl⟩, fun _ _ _ h => h⟩))) fun H1 k1 => ?_
  have hl : xs.length = qs.length := hn.1
  refine ss_ret (pa := none) (P := NL H (RVs K (trim qs))) (ev_c1 (c_trimmed T) hr (by decide) (ev_lcLT 1 (fun i => IsR K (qs.getD i 0)) (ev_v 0) (Stb.st (pa := none) _ _ _ k1 hv) (by omega) fun n y H' hy k s0 H0 C cl fp => ?_) fun u H2 k2 h => ?_) fun v' H4 k4 h => hQ v' H4 (k1.trans k4) h
  · exact ev_c1 (c_ratio_of T) hr (by decide) (ev_n (P := Num K (qs.getD n 0)) 1 (Stb.st (pa := none) _ _ _ (k1.trans k) (hn.2 n y hy))) fun v H1 _ h => ⟨_, ⟨_, h, rfl⟩, fun _ _ _ h => h⟩
  · have h2 : NL H1 (RVs K qs) u H2 := by rw [hl] at h; exact h
    exact ⟨_, ⟨qs, h2.rl, by omega, rfl⟩, fun v H3 _ h => h.back (k1.trans k2)⟩
end
end RR
-- RQ
namespace RR
open PySem PySem.Spec PyProof.Rows L2
def sumP (a b : List Rat) : List Rat := trim (mk (max a.length b.length) fun i => a.getD i 0 + b.getD i 0)
def byP (a : List Rat) (r : Rat) : List Rat := trim (mk a.length fun i => a.getD i 0 * r)
/-- sums of two fit -/
def slopeP (a : List Rat) : List Rat := mk (a.length - 1) fun i => a.getD (i + 1) 0 * (((i + 1 : Nat) : Int) : Rat)
theorem Sz.nat {n : Nat} (h : n < 2 ^ 4000) : Sz ((n : Int) : Rat) := Sz.int (by omega)
section
variable {P : Program} {w : World} {K : PySem.W.Frag} {mg : Str → Option Value} {base : Heap}
theorem sumP_comm (a b : List Rat) : sumP a b = sumP b a := by
  unfold sumP
  rw [Nat.max_comm]
  congr 2
  funext i
  exact Rat.add_comm _ _
theorem c_sum_of (T : Txt K mg) : Cal P w K mg base "sum_of" 6 [] (spN (P2 fun u v H Po => ∃ a b, RL K a u H ∧ RL K b v H ∧ SzL a ∧ SzL b ∧ a.length ≤ 500 ∧ b.length ≤ 500 ∧ Po = NL H (RVs K (sumP a b)))) := by
  refine (def2 (N := ["one", "other", "near", "far", "at"]) T.f_Fsum_of "one" "other" fun cdv A outer s E H u v Po Q hr nd ⟨a, b, hu, hv, sa, sb, la, lb, hPo⟩ hQ => ?_).named T.g_sum_of
  subst hPo
  have go : ∀ (x y : V) (c d : List Rat) (o : Option V) (H1 : Hp), Kp none H H1 → RL K c x H → RL K d y H → SzL c → SzL d → c.length ≤ 500 → d.length ≤ c.length → sumP c d = sumP a b →
      Ss (bodyX P w K mg base ["one", "other", "near", "far", "at"] d_Fsum_of cdv A outer s H E) (d_Fsum_of.body.drop 1) [some u, some v, some x, some y, o] H1 { nx := fun _ H' => Q .non H', rt := Q } := fun x y c d o H1 k1 hx hy sc sd lc hdc hs => by
    refine ss_ret (pa := none) (P := NL H (RVs K (sumP a b))) (ev_c1 (c_trimmed T) hr (by decide) (ev_lcR (z := c.length) 4 (fun i => IsR K (c.getD i 0 + d.getD i 0)) T.n_range (ev_lenR T.n_len (ev_n 2 (hx.kp k1))) (by omega) (by omega) potN fun n H' hn k s0 H0 C cl fp => ?_) fun u' H2 k2 h => ?_) fun v' H4 k4 h => hQ v' H4 (k1.trans k4) h
    · have hn : n < c.length := by simpa using hn
      refine ev_if (k := decide ((n : Int) < d.length)) (et_lt (ev_v 4) (ev_lenR T.n_len (ev_n 3 (hy.kp (k1.trans k)))) rfl) (fun h => ?_) (fun h => ?_)
      · have h := of_decide_eq_true h
        exact ev_radd T hr (by decide) (sc n) (sd n) (ev_ixR (ev_n 2 (hx.kp (k1.trans k))) (ev_v 4) n (ixN_nat hn)) (ev_num (ev_ixR (ev_n 3 (hy.kp (k1.trans k))) (ev_v 4) n (ixN_nat (by omega))))
      · have h := of_decide_eq_false h
        refine (ev_ixR (ev_n 2 (hx.kp (k1.trans k))) (ev_v 4) n (ixN_nat hn)).imp fun v' H'' _ h' => ?_
        rw [getD_ge (qs := d) (by omega), Rat.add_zero]
        exact h'
    · have h2 : NL H1 (RVs K (mk c.length fun i => c.getD i 0 + d.getD i 0)) u' H2 := nl_mk (by simpa using h)
      refine ⟨_, ⟨_, h2.rl, by rw [mk_len]; omega, rfl⟩, fun v H3 _ h => ?_⟩
      rw [← hs]
      unfold sumP
      rw [Nat.max_eq_left hdc]
      exact h.back (k1.trans k2)
  by_cases hab : b.length ≤ a.length
  · refine ss_tup (pa := none) (Pa := Is u) (Pb := Is v) 2 3 (ev_if (k := true) (et_ge (ev_lenR T.n_len (ev_n 0 hu)) (ev_lenR T.n_len (ev_n 1 hv)) (by simpa using hab)) (fun _ => ev_tup2 (ev_v 0) (ev_v 1)) fun h => nomatch h) fun x y H1 k1 e1 e2 => ?_
    subst e1
    subst e2
    exact go _ _ a b none H1 k1 hu hv sa sb la hab rfl
  · refine ss_tup (pa := none) (Pa := Is v) (Pb := Is u) 2 3 (ev_if (k := false) (et_ge (ev_lenR T.n_len (ev_n 0 hu)) (ev_lenR T.n_len (ev_n 1 hv)) (by simpa using hab)) (fun h => nomatch h) fun _ => ev_tup2 (ev_v 1) (ev_v 0)) fun x y H1 k1 e1 e2 => ?_
    subst e1
    subst e2
    exact go _ _ b a none H1 k1 hv hu sb sa lb (by omega) (sumP_comm b a)
theorem c_by_number (T : Txt K mg) : Cal P w K mg base "by_number" 6 [] (spN (P2 fun u v H Po => ∃ a r, RL K a u H ∧ Num K r v H ∧ SzL a ∧ Sz r ∧ a.length ≤ 500 ∧ Po = NL H (RVs K (byP a r)))) := by
  refine (def2 (N := ["poly", "ratio", "number"]) T.f_Fby_number "poly" "ratio" fun cdv A outer s E H u v Po Q hr nd ⟨a, r, hu, hv, sa, sr, la, hPo⟩ hQ => ?_).named T.g_by_number
  subst hPo
  obtain ⟨p, xs, e, hp, rv⟩ := id hu
  refine ss_ret (pa := none) (P := NL H (RVs K (byP a r))) (ev_c1 (c_trimmed T) hr (by decide) (ev_lcL 2 xs (fun i => IsR K (a.getD i 0 * r)) (ev_v 0) potN (by rw [rv.1]; omega) (fun v' H' k e' => ⟨p, by rw [show v' = _ from e', e], fun H'' k2 => SqL.of ((k.trans k2).get0 hp)⟩) fun n y H' hy k s0 H0 C cl fp => ?_) fun u' H2 k2 h => ?_) hQ
  · exact ev_rmul T hr (by decide) (sa n) sr (ev_n (P := IsR K (a.getD n 0)) 2 (Stb.st (pa := none) _ _ _ k (rv.2 n y hy))) (ev_n (P := Num K r) 1 (Stb.st (pa := none) _ _ _ k hv))
  · rw [rv.1] at h
    have h2 := nl_mk h
    exact ⟨_, ⟨_, h2.rl, by rw [mk_len]; omega, rfl⟩, fun v H3 _ h => h.back k2⟩
theorem c_less_of (T : Txt K mg) : Cal P w K mg base "less_of" 7 [] (spN (P2 fun u v H Po => ∃ a b, RL K a u H ∧ RL K b v H ∧ SzL a ∧ SzL b ∧ SzL (byP b (((-1 : Int)) : Rat)) ∧ a.length ≤ 500 ∧ b.length ≤ 500 ∧ Po = NL H (RVs K (sumP a (byP b (((-1 : Int)) : Rat)))))) := by
  refine (def2 (N := ["one", "other"]) T.f_Fless_of "one" "other" fun cdv A outer s E H u v Po Q hr nd ⟨a, b, hu, hv, sa, sb, sbn, la, lb, hPo⟩ hQ => ?_).named T.g_less_of
  subst hPo
  refine ss_ret (pa := none) (ev_c2 (Pb := NL H (RVs K (byP b (((-1 : Int)) : Rat)))) (c_sum_of T) hr (by decide) (ev_n 0 hu) (ev_c2 (c_by_number T) hr (by decide) (ev_n 1 hv) (ev_rat1 T hr (ev_neg ev_int)) fun x y H1 k1 hx hy => ⟨_, ⟨b, _, hx, .inl hy, sb, Sz.int (by decide), lb, rfl⟩, fun v H2 k2 h => h.back k1⟩)
    fun x y H1 k1 hx hy => ⟨_, ⟨a, _, hx, hy.rl, sa, sbn, la, ?_, rfl⟩, fun v H2 k2 h => h.back k1⟩) hQ
  refine Nat.le_trans (trim_le _) ?_
  rw [mk_len]
  exact lb
theorem c_slope_of (T : Txt K mg) : Cal P w K mg base "slope_of" 6 [] (spN (P1 fun u H Po => ∃ a, RL K a u H ∧ SzL a ∧ 1 ≤ a.length ∧ a.length ≤ 500 ∧ Po = NL H (RVs K (slopeP a)))) := by
  refine (def1 (N := ["poly", "at"]) T.f_Fslope_of "poly" fun cdv A outer s E H u Po Q hr nd ⟨a, hu, sa, l1, la, hPo⟩ hQ => ?_).named T.g_slope_of
  subst hPo
  refine ss_ret (pa := none) (ev_lcR2 (lo := 1) (hi := a.length) 1 (fun i => IsR K (a.getD (i + 1) 0 * (((i + 1 : Nat) : Int) : Rat))) T.n_range ev_int (ev_lenR T.n_len (ev_n 0 hu)) (by omega) (by omega) potN fun n H' hn k s0 H0 C cl fp => ?_) fun v' H' k h => hQ v' H' k ?_
  · have e : (1 : Int) + (n : Int) = ((n + 1 : Nat) : Int) := by omega
    exact ev_rmul T hr (by decide) (sa _) (Sz.nat (Nat.lt_trans (show n + 1 < 1000 by omega) (by decide))) (ev_ixR (ev_n 0 (hu.kp k)) (ev_v 1) (n + 1) (by rw [e]; exact ixN_nat (by omega))) (ev_numI (by rw [← e]; exact ev_v 1))
  · have h2 := nl_mk h
    unfold slopeP
    rw [show a.length - 1 = ((a.length : Int) - 1).toNat by omega]
    exact h2
end
end RR
-- RN2
namespace RR
open PySem PySem.Spec PyProof.Rows L2
section
variable {X : Cx} {pa : Option Addr} {σ : L2.St} {H H' : Hp} {elt iter : Expr} {pos spos : Pos} {P Pa : V → Hp → Prop} {rest : List Stmt} {D : Ends}
/-- y = [elt for x in a list] -/
theorem ss_setL (j i : Nat) {x y : Str} {px py : Pos} {scope : Scope} (xs : List V) (R : Nat → V → Hp → Prop) [S : ∀ i, Stb pa (R i)] [L : ∀ i, StbL (R i)] (hi : Ev pa X iter σ H Pa) (hp : PotOk pa H) (hlen : xs.length ≤ 100000)
    (h0 : ∀ v H', Kp pa H H' → Pa v H' → ∃ a, v = .ref a ∧ ∀ H'', Kp pa H' H'' → SqL X.K H'' a xs)
    (he : ∀ n w H', xs[n]? = some w → Kp pa H H' → InBlk pa X scope elt ((σ.set i none).set i (some w)) H' (R n))
    (go : ∀ v H', Kp pa H H' → NL H (Each xs.length R) v H' → Ss X rest (σ.set j (some v)) H' D)
    (hx : X.N[i]? = some x := by rfl) (hy : X.N[j]? = some y := by rfl) (hyl : X.env.scope.names.lookup y = some .local := by rfl) (hN : X.N.Nodup := by assumption) (hc : X.calm = true := by rfl)
    (hsw : swapsWith (.ListComp elt [⟨.Name x px, iter, [], 0⟩] scope pos) (some (.Name y py)) spos.line X.env = pure true := by rfl)
    (ok : BlkOk X.N X.env.scope scope [(x, i)] := by exact blkOk_by (by kernel_rfl))
    (hg : ∀ (s : Shared) (H : Hp) (C : Addr) (cl : List (Str × Addr)) (fp : List Addr), PG (X.blk s H scope (compEnvC scope cl C X.env) fp) (.Name x px) (gName i) := by intro _ _ _ _ _; exact pg_name (by assumption) rfl (Or.inl rfl))
    (hs : ∀ x, foldedSetIterable iter X.env x = pure x := by intro _; rfl) :
    Ss X (.Assign [.Name y py] (.ListComp elt [⟨.Name x px, iter, [], 0⟩] scope pos) spos :: rest) σ H D := by
  refine ss_cons (ps_setLc (i := j) (own := [(x, i)]) (g := gName i) (tt := tYes) (te := tBlk pa X scope elt) hc hN hy hyl hsw (pi_list hi) ok hg (fun _ _ _ _ _ => pts_nil) (fun s H0 C cl fp => tBlk_ok s H0 C cl fp) hs) ⟨rfl, Kp.refl _, fun v H2 k2 p => ?_⟩
  obtain ⟨a, e, hsq⟩ := h0 v H2 k2 p
  refine ⟨a, e, ⟨xs, hsq H2 (Kp.refl _)⟩, fun D hD => ?_⟩
  have hp2 : PotOk pa H2 := hp.at k2
  refine lc_list (K := X.K) (a := a) (xs := xs) (g := gName i) (tt := tYes) (te := tBlk pa X scope elt) (vs := [i]) (LcInv pa H2 D R) (LcInv.start hD) (fun n H' _ w => hsq H' w.kp) (fun n y H' hy w => ?_) (fun H' w => go _ _ (k2.trans w.kp) (w.done (k2.free hD)))
  refine And.intro (by show (((σ.set i none).set i (some y)).set i none) = σ.set i none; simp) ?_
  refine ⟨R n, he n y H' hy (k2.trans w.kp), fun z H4 k4 hz => ?_⟩
  have hn : n < xs.length := (List.getElem?_eq_some_iff.mp hy).1
  exact w.step hD hp2 k4 hz (by omega)
/-- y = [elt for x in range(n)] -/
theorem ss_setR (j i : Nat) {x y : Str} {px py pr pc : Pos} {scope : Scope} {a : Expr} {z : Int} (R : Nat → V → Hp → Prop) [S : ∀ i, Stb pa (R i)] [L : ∀ i, StbL (R i)] (hr : X.mg "range" = none) (ha : Ev pa X a σ H (Is (.int z))) (hz : z ≤ 100000) (hz0 : -(2 ^ 62) ≤ z) (hp : PotOk pa H)
    (he : ∀ (n : Nat) H', n < z.toNat → Kp pa H H' → InBlk pa X scope elt ((σ.set i none).set i (some (.int (n : Nat)))) H' (R n))
    (go : ∀ v H', Kp pa H H' → NL H (Each z.toNat R) v H' → Ss X rest (σ.set j (some v)) H' D)
    (hx : X.N[i]? = some x := by rfl) (hy : X.N[j]? = some y := by rfl) (hyl : X.env.scope.names.lookup y = some .local := by rfl) (hN : X.N.Nodup := by assumption) (hc : X.calm = true := by rfl)
    (hsw : swapsWith (.ListComp elt [⟨.Name x px, .Call (.Name "range" pr) [a] [] pc, [], 0⟩] scope pos) (some (.Name y py)) spos.line X.env = pure true := by rfl)
    (ok : BlkOk X.N X.env.scope scope [(x, i)] := by exact blkOk_by (by kernel_rfl))
    (hg : ∀ (s : Shared) (H : Hp) (C : Addr) (cl : List (Str × Addr)) (fp : List Addr), PG (X.blk s H scope (compEnvC scope cl C X.env) fp) (.Name x px) (gName i) := by intro _ _ _ _ _; exact pg_name (by assumption) rfl (Or.inl rfl))
    (hgr : Gl X "range" := by rfl) (hsa : starEach [a] X.env = (false, eval a X.env) :: starEach [] X.env := by rfl) (hsr : starEach [a] X.env = [(false, eval a X.env)] := by rfl)
    (hs : ∀ x, foldedSetIterable (.Call (.Name "range" pr) [a] [] pc) X.env x = pure x := by intro _; rfl) :
    Ss X (.Assign [.Name y py] (.ListComp elt [⟨.Name x px, .Call (.Name "range" pr) [a] [] pc, [], 0⟩] scope pos) spos :: rest) σ H D := by
  refine ss_cons (ps_setLc (i := j) (own := [(x, i)]) (g := gName i) (tt := tYes) (te := tBlk pa X scope elt) hc hN hy hyl hsw (pi_range1 hgr hr (eva1 ha hsa) hsr) ok hg (fun _ _ _ _ _ => pts_nil) (fun s H0 C cl fp => tBlk_ok s H0 C cl fp) hs) ⟨rfl, Kp.refl _, fun vs H2 k2 ⟨v, e, p⟩ => ?_⟩
  refine ⟨z, by rw [e, show v = V.int z from p], hz0, by omega, fun D hD => ?_⟩
  have hp2 : PotOk pa H2 := hp.at k2
  refine lc_range (lo := 0) (n := z.toNat) (g := gName i) (tt := tYes) (te := tBlk pa X scope elt) (vs := [i]) (LcInv pa H2 D R) (LcInv.start hD) (fun n H' hn w => ?_) (fun H' w => go _ _ (k2.trans w.kp) (w.done (k2.free hD)))
  rw [show ((0 : Int) + (n : Nat)) = ((n : Nat) : Int) by omega]
  refine And.intro (by show (((σ.set i none).set i (some (.int (n : Nat)))).set i none) = σ.set i none; simp) ?_
  refine ⟨R n, he n H' hn (k2.trans w.kp), fun z' H4 k4 hz' => ?_⟩
  exact w.step hD hp2 k4 hz' (by omega)
end
end RR
-- RS
namespace RR
open PySem PySem.Spec PyProof.Rows L2
/-! ### rows of ints -/
abbrev iv (ns : List Int) : List V := ns.map V.int
theorem iv_set (ns : List Int) (n : Nat) (z : Int) : iv (ns.set n z) = (iv ns).set n (.int z) := List.map_set ..
def IL (ns : List Int) : V → Hp → Prop := fun v H => ∃ p, v = .ref p ∧ H p = some (.lst (iv ns))
def FI (H0 : Hp) (ns : List Int) : V → Hp → Prop := NL H0 (fun xs _ => xs = iv ns)
instance {ns : List Int} : StbA none (fun (xs : List V) (_ : Hp) => xs = iv ns) := ⟨fun _ _ _ _ h => h⟩
instance {ns : List Int} : Stb none (IL ns) := ⟨fun v H1 H2 k ⟨p, e, h⟩ => ⟨p, e, k.get0 h⟩⟩
instance {H0 : Hp} {ns : List Int} : Stb none (FI H0 ns) := inferInstanceAs (Stb none (NL H0 _))
theorem FI.il {H0 H : Hp} {ns : List Int} {v : V} (h : FI H0 ns v H) : IL ns v H := let ⟨p, xs, e, _, hp, r⟩ := h; ⟨p, e, by rw [hp, r]⟩
theorem each_int {n : Nat} {f : Nat → Int} {ys : List V} {H : Hp} (h : Each n (fun i => Is (.int (f i))) ys H) : ys = iv ((List.range n).map f) := by
  refine List.ext_getElem? fun i => ?_
  by_cases hi : i < n
  · have hy : i < ys.length := by rw [h.1]; exact hi
    have := h.2 i ys[i] (List.getElem?_eq_getElem hy)
    rw [List.getElem?_eq_getElem hy, show ys[i] = _ from this]
    simp [hi]
  · rw [List.getElem?_eq_none (by rw [h.1]; omega), List.getElem?_eq_none (by simp; omega)]
theorem fi_each {H0 H : Hp} {n : Nat} {f : Nat → Int} {v : V} (h : NL H0 (Each n (fun i => Is (.int (f i)))) v H) : FI H0 ((List.range n).map f) v H :=
  let ⟨p, xs, e, n, hp, r⟩ := h; ⟨p, xs, e, n, hp, each_int r⟩
section
variable {X : Cx} {pa : Option Addr} {σ : L2.St} {H H' : Hp} {a b : Expr} {pos p : Pos} {Pa Pb : V → Hp → Prop} {i : Int} {ns : List Int}
theorem ev_ixI (ha : Ev pa X a σ H (IL ns)) [Stb pa (IL ns)] (hb : Ev pa X b σ H (Is (.int i))) (n : Nat) (hi : ixN ns.length i = some n) (hs : PlainIx b := by intro _ _; rfl) : Ev pa X (.Subscript a b pos) σ H (Is (.int (ns.getD n 0))) :=
  ev_ix ha hb (fun v H' _ ⟨p, e, hp⟩ => by
    have hn : n < ns.length := (ixN_seq hi).2.1
    refine ⟨p, _, _, e, SqL.of hp, ?_, rfl⟩
    unfold atI
    rw [List.length_map, hi]
    show (iv ns)[n]? = _
    rw [List.getElem?_map, List.getElem?_eq_getElem hn, List.getD_eq_getElem?_getD, List.getElem?_eq_getElem hn]
    rfl) hs
theorem ev_lenI {p : Pos} (hm : X.mg "len" = none) (ha : Ev pa X a σ H (IL ns)) (hg : Gl X "len" := by rfl) (he : starEach [a] X.env = (false, eval a X.env) :: starEach [] X.env := by rfl) (hpl : (backTo pos (starEach [] X.env)).any (·.1) = false := by rfl) :
    Ev pa X (.Call (.Name "len" p) [a] [] pos) σ H (Is (.int ns.length)) :=
  ev_len hm ha (fun v H' _ ⟨p, e, hp⟩ => ⟨p, _, e, .inl (SqL.of hp), List.length_map ..⟩) hg he hpl
end
/-! ### the product -/
def rowStep (c : Int) (far : List Int) (i : Nat) (f : List Int) : Nat → List Int
  | 0 => f
  | n + 1 => (rowStep c far i f n).set (i + n) ((rowStep c far i f n).getD (i + n) 0 + c * far.getD n 0)
def prodN (near far : List Int) : Nat → List Int
  | 0 => (List.range (near.length + far.length - 1)).map fun _ => 0
  | n + 1 => if near.getD n 0 = 0 then prodN near far n else rowStep (near.getD n 0) far n (prodN near far n) far.length
def prodI (near far : List Int) : List Int := prodN near far near.length
theorem rowStep_len {c : Int} {far f : List Int} {i : Nat} : ∀ n, (rowStep c far i f n).length = f.length
  | 0 => rfl
  | n + 1 => by
    unfold rowStep
    rw [List.length_set, rowStep_len n]
theorem prodN_len {near far : List Int} : ∀ n, (prodN near far n).length = near.length + far.length - 1
  | 0 => by simp [prodN]
  | n + 1 => by
    unfold prodN
    split
    · exact prodN_len n
    · rw [rowStep_len, prodN_len n]
theorem getD_of {ns : List Int} {n : Nat} {y : V} (h : (iv ns)[n]? = some y) : y = .int (ns.getD n 0) ∧ n < ns.length := by
  have hn : n < ns.length := by
    have := (List.getElem?_eq_some_iff.mp h).1
    simpa using this
  refine ⟨?_, hn⟩
  rw [List.getElem?_map, List.getElem?_eq_getElem hn] at h
  rw [List.getD_eq_getElem?_getD, List.getElem?_eq_getElem hn]
  exact (Option.some.inj h).symm
theorem getD_lt {ns : List Int} {B : Nat} (h : ∀ x ∈ ns, x.natAbs < B) (hB : 0 < B) (n : Nat) : (ns.getD n 0).natAbs < B := by
  rw [List.getD_eq_getElem?_getD]
  cases e : ns[n]? with
  | none => exact hB
  | some x => exact h x (List.mem_of_getElem? e)
section
variable {P : Program} {w : World} {K : PySem.W.Frag} {mg : Str → Option Value} {base : Heap}
/-- the bound of ints -/
def BI (ns : List Int) : Prop := ∀ x ∈ ns, x.natAbs < 2 ^ 4000
theorem bi_get {ns : List Int} (h : BI ns) (n : Nat) : (ns.getD n 0).natAbs < 2 ^ 4000 := getD_lt h (by decide) n
theorem c_int_product (T : Txt K mg) : Cal P w K mg base "int_product" 1 [] (spN (P2 fun u v H Po => ∃ a b, IL a u H ∧ IL b v H ∧ BI a ∧ BI b ∧ 1 ≤ a.length ∧ 1 ≤ b.length ∧ a.length ≤ 500 ∧ b.length ≤ 500 ∧ Po = FI H (prodI a b))) := by
  refine (def2 (N := ["near", "far", "found", "at", "left", "to", "right"]) T.f_Fint_product "near" "far" fun cdv A outer s E H u v Po Q hr nd ⟨a, b, hu, hv, ba, bb, ha, hb, la, lb, hPo⟩ hQ => ?_).named T.g_int_product
  subst hPo
  refine ss_setR (pa := none) 2 3 (z := ((a.length : Int) + b.length) - 1) (fun _ => Is (.int 0)) T.n_range (ev_sub (ev_add (ev_lenI T.n_len (ev_n 0 hu)) (ev_lenI T.n_len (ev_n 1 hv))) ev_int) (by omega) (by omega) potN (fun n H' hn k s0 H0 C cl fp => ev_int) fun x H1 k1 hx => ?_
  have hx2 := fi_each hx
  rw [show (((a.length : Int) + b.length) - 1).toNat = a.length + b.length - 1 by omega] at hx2
  obtain ⟨p, xs, rfl, hp0, hp1, rfl⟩ := hx2
  obtain ⟨pu, rfl, hu0⟩ := id hu
  obtain ⟨pv, rfl, hv0⟩ := id hv
  refine ss_forE (pa := none) 3 4 (iv a) (fun q n σ H' => q = pu ∧ Kp none H H' ∧ H' p = some (.lst (iv (prodN a b n))) ∧ ∃ o1 o2 o3 o4, σ = [some (V.ref pu), some (V.ref pv), some (V.ref p), o1, o2, o3, o4]) T.n_enumerate (ev_v 0)
    (fun z H' k e => ⟨pu, e, rfl, k1.trans k, k.get0 hp1, _, _, _, _, rfl⟩) (fun q n σ' H' _ ⟨e, k, _⟩ => by subst e; exact SqL.of (k.get0 hu0)) (fun q n y σ' H2 H3 hy ⟨eu, k2, hp2, o1, o2, o3, o4, hσ⟩ k3 => ?_) (fun q σ' H2 ⟨e, k2, hp2, o1, o2, o3, o4, hσ⟩ => ?_)
  · obtain ⟨ey, hn⟩ := getD_of hy
    subst ey
    subst hσ
    have k23 := k2.trans k3
    have hp3 := k3.get0 hp2
    refine ss_ifb (pa := none) (k := !decide (a.getD n 0 = 0)) (et_neI (ev_v 4) ev_int rfl) (fun h0 H4 k4 => ?_) (fun h0 H4 k4 => ?_)
    · have hne : a.getD n 0 ≠ 0 := by simpa using h0
      have ep : prodN a b (n + 1) = rowStep (a.getD n 0) b n (prodN a b n) b.length := by
        show (if a.getD n 0 = 0 then _ else _) = _
        rw [if_neg hne]
      refine ss_forE (pa := none) 5 6 (iv b) (fun q m σ H' => q = pv ∧ Kp none H H' ∧ H' p = some (.lst (iv (rowStep (a.getD n 0) b n (prodN a b n) m))) ∧ ∃ o3 o4, σ = [some (V.ref pu), some (V.ref pv), some (V.ref p), some (V.int (n : Nat)), some (V.int (a.getD n 0)), o3, o4]) T.n_enumerate (ev_v 1)
        (fun z H' k e => ⟨pv, e, rfl, (k23.trans k4).trans k, (k4.trans k).get0 hp3, _, _, rfl⟩) (fun q n σ' H' _ ⟨e, k, _⟩ => by subst e; exact SqL.of (k.get0 hv0)) (fun q m y σ' H5 H6 hy5 ⟨e, k5, hp5, o3, o4, hσ⟩ k6 => ?_) (fun q σ' H5 ⟨e, k5, hp5, o3, o4, hσ⟩ => ?_)
      · obtain ⟨ey, hm⟩ := getD_of hy5
        subst ey
        subst hσ
        have hl : n + m < (rowStep (a.getD n 0) b n (prodN a b n) m).length := by rw [rowStep_len, prodN_len]; omega
        have hix : ixN (rowStep (a.getD n 0) b n (prodN a b n) m).length ((n : Int) + (m : Int)) = some (n + m) := by
          rw [show ((n : Int) + (m : Int)) = ((n + m : Nat) : Int) by omega]
          exact ixN_nat hl
        have hi6 : IL (rowStep (a.getD n 0) b n (prodN a b n) m) (V.ref p) H6 := ⟨p, rfl, k6.get0 hp5⟩
        refine ss_sub (pa := none) (ev_add (ev_ixI (ev_n 2 hi6) (ev_add (ev_v 3) (ev_v 5)) (n + m) hix) (ev_mul (cm (bi_get ba n) (bi_get bb m)) (ev_v 4) (ev_v 6))) (ev_v 2) (ev_add (ev_v 3) (ev_v 5)) fun v' x' y' H7 k7 e1 e2 e3 => ?_
        subst e1
        subst e2
        subst e3
        refine ⟨p, _, _, n + m, rfl, rfl, k7.get0 (k6.get0 hp5), by rw [List.length_map]; exact hix, ss_nil ⟨e, ((k5.trans k6).trans k7).mut hp0, ?_, _, _, rfl⟩⟩
        rw [upd_same]
        exact congrArg (fun z => some (HO.lst z)) (iv_set _ _ _).symm
      · subst hσ
        exact ss_nil (ss_nil ⟨eu, k5, by rw [hp5, ep, List.length_map], _, _, _, _, rfl⟩)
    · have hne : a.getD n 0 = 0 := by simpa using h0
      have ep : prodN a b (n + 1) = prodN a b n := by
        show (if a.getD n 0 = 0 then _ else _) = _
        rw [if_pos hne]
      exact ss_nil (ss_nil ⟨eu, k23.trans k4, by rw [ep]; exact k4.get0 hp3, _, _, _, _, rfl⟩)
  · subst hσ
    refine ss_ret (pa := none) (ev_v 2) fun v' H3 k3 e3 => hQ v' H3 (k2.trans k3) ⟨p, _, e3, hp0, k3.get0 hp2, ?_⟩
    rw [List.length_map]
    rfl
end
end RR
-- RU
namespace RR
open PySem PySem.Spec PyProof.Rows L2
/-! ### wholes -/
def lcmUp (qs : List Rat) : Nat → Nat
  | 0 => 1
  | n + 1 => Nat.lcm (lcmUp qs n) (qs.getD n 0).den
theorem lcmUp_pos (qs : List Rat) : ∀ n, 0 < lcmUp qs n
  | 0 => Nat.one_pos
  | n + 1 => Nat.lcm_pos (lcmUp_pos qs n) (Nat.pos_of_ne_zero (qs.getD n 0).den_nz)
theorem lcmUp_mono (qs : List Rat) : ∀ n k, lcmUp qs n ≤ lcmUp qs (n + k)
  | n, 0 => Nat.le_refl _
  | n, k + 1 => Nat.le_trans (lcmUp_mono qs n k) (Nat.le_of_dvd (lcmUp_pos qs _) (Nat.dvd_lcm_left _ _))
theorem den_le (qs : List Rat) (n : Nat) : (qs.getD n 0).den ≤ lcmUp qs (n + 1) := Nat.le_of_dvd (lcmUp_pos qs _) (Nat.dvd_lcm_right _ _)
def lcmQ (qs : List Rat) : Nat := lcmUp qs qs.length
def topsQ (qs : List Rat) : List Int := (List.range qs.length).map fun i => (qs.getD i 0).num * ((lcmQ qs : Nat) : Int).fdiv (qs.getD i 0).den
section
variable {P : Program} {w : World} {K : PySem.W.Frag} {mg : Str → Option Value} {base : Heap}
theorem c_wholes (T : Txt K mg) : Cal P w K mg base "wholes" 1 [] (spN (P1 fun u H Po => ∃ a, RL K a u H ∧ SzL a ∧ lcmQ a < 2 ^ 64 ∧ a.length ≤ 500 ∧ Po = Tup2 (Is (.int (lcmQ a : Nat))) (FI H (topsQ a)))) := by
  refine (def1 (N := ["ratios", "bottom", "ratio"]) T.f_Fwholes "ratios" fun cdv A outer s E H u Po Q hr nd ⟨a, hu, sa, hL, la, hPo⟩ hQ => ?_).named T.g_wholes
  subst hPo
  obtain ⟨p, xs, rfl, hp, rv⟩ := id hu
  have hl : xs.length = a.length := rv.1
  refine ss_set (pa := none) 1 ev_int fun v H1 k1 e => ?_
  subst e
  refine ss_forL (pa := none) 2 xs (fun q n σ H' => q = p ∧ Kp none H H' ∧ ∃ o, σ = [some (V.ref p), some (V.int (lcmUp a n : Nat)), o]) (ev_v 0) (fun v H' k e => ⟨p, e, rfl, k1.trans k, _, rfl⟩) (fun q i σ' H' _ ⟨e, k, _⟩ => by subst e; exact SqL.of (k.get0 hp))
    (fun q n y σ' H2 hy ⟨e, k2, o, hσ⟩ => ?_) (fun q σ' H2 ⟨e, k2, o, hσ⟩ => ?_)
  · subst hσ
    have hn : n < a.length := by rw [← hl]; exact (List.getElem?_eq_some_iff.mp hy).1
    have hm : lcmUp a (n + 1) < 2 ^ 64 := by
      have := lcmUp_mono a (n + 1) (a.length - (n + 1))
      rw [show n + 1 + (a.length - (n + 1)) = a.length by omega] at this
      exact Nat.lt_of_le_of_lt this hL
    have h1 : lcmUp a n < 2 ^ 64 := Nat.lt_of_le_of_lt (lcmUp_mono a n 1) hm
    have h2 : (a.getD n 0).den < 2 ^ 64 := Nat.lt_of_le_of_lt (den_le a n) hm
    refine ss_set (pa := none) 1 (ev_lcm T (i := (lcmUp a n : Nat)) (j := (a.getD n 0).den) h1 h2 (ev_v 1) (ev_bot T (ev_n (P := IsR K (a.getD n 0)) 2 (Stb.st (pa := none) _ _ _ k2 (rv.2 n y hy))))) fun v H3 k3 e3 => ss_nil ⟨e, k2.trans k3, some y, by subst e3; rfl⟩
  · subst hσ
    rw [hl]
    refine ss_ret (pa := none) (P := Tup2 (Is (.int (lcmQ a : Nat))) (FI H (topsQ a))) (ev_tup2 (ev_v 1) ((ev_lcL 2 xs (fun i => Is (.int ((a.getD i 0).num * ((lcmQ a : Nat) : Int).fdiv (a.getD i 0).den))) (ev_v 0) potN (by omega) (fun v' H' k e' => ⟨p, e', fun H'' k3 => SqL.of (((k2.trans k).trans k3).get0 hp)⟩) fun n y H' hy k s0 H0 C cl fp => ?_).imp fun v' H' k h => ?_)) fun v' H' k h => hQ v' H' (k2.trans k) h
    · have hn : n < a.length := by rw [← hl]; exact (List.getElem?_eq_some_iff.mp hy).1
      refine ev_mul ?_ (ev_top T (ev_n (P := IsR K (a.getD n 0)) 2 (Stb.st (pa := none) _ _ _ (k2.trans k) (rv.2 n y hy)))) (ev_fdiv ⟨den_ne _, ?_⟩ (ev_v 1) (ev_bot T (ev_n (P := IsR K (a.getD n 0)) 2 (Stb.st (pa := none) _ _ _ (k2.trans k) (rv.2 n y hy)))))
      · refine cm (sa n).1 (Nat.lt_of_le_of_lt (Int.natAbs_fdiv_le_natAbs _ _) (Nat.lt_trans hL (by decide)))
      · exact log2_lt (k := 9000) (lt9 (sa n).2) (by decide)
    · rw [hl] at h
      exact (fi_each h).back (k2)
end
end RR
-- RV
namespace RR
open PySem PySem.Spec PyProof.Rows L2
theorem map_getD {f : Int → Rat} {ns : List Int} {i : Nat} (h : i < ns.length) : (ns.map f).getD i 0 = f (ns.getD i 0) := by
  rw [List.getD_eq_getElem?_getD, List.getElem?_map, List.getElem?_eq_getElem h, List.getD_eq_getElem?_getD, List.getElem?_eq_getElem h]
  rfl
theorem each_map {K : PySem.W.Frag} {f : Int → Rat} {ns : List Int} {xs : List V} {H : Hp} (h : Each ns.length (fun i => IsR K (f (ns.getD i 0))) xs H) : RVs K (ns.map f) xs H := by
  refine ⟨by rw [h.1, List.length_map], fun i y e => ?_⟩
  have hi : i < ns.length := by rw [← h.1]; exact (List.getElem?_eq_some_iff.mp e).1
  show IsR K ((ns.map f).getD i 0) y H
  rw [map_getD hi]
  exact h.2 i y e
def prodQ (a b : List Rat) : List Rat := (prodI (topsQ a) (topsQ b)).map fun t => Rat.divInt t ((lcmQ a : Nat) * (lcmQ b : Nat) : Int)
theorem topsQ_len (a : List Rat) : (topsQ a).length = a.length := by simp [topsQ]
theorem iv_get {ns : List Int} {n : Nat} {y : V} (h : (iv ns)[n]? = some y) : y = .int (ns.getD n 0) := (getD_of h).1
/-! ### plain rows -/
def tlI (ns : List Int) : Nat → Nat
  | 0 => 0
  | n + 1 => if ns.getD n 0 = 0 then tlI ns n else n + 1
theorem tlI_le (ns : List Int) : ∀ n, tlI ns n ≤ n
  | 0 => Nat.le_refl _
  | n + 1 => by
    unfold tlI
    split
    · exact Nat.le_succ_of_le (tlI_le ns n)
    · exact Nat.le_refl _
theorem tlI_ne (ns : List Int) : ∀ n m, tlI ns n = m + 1 → ns.getD m 0 ≠ 0
  | 0, m, h => by cases h
  | n + 1, m, h => by
    unfold tlI at h
    split at h
    · exact tlI_ne ns n m h
    · rename_i h0
      have : n = m := by omega
      rw [← this]
      exact h0
def strip (ns : List Int) : List Int := ns.take (tlI ns ns.length)
theorem strip_len (ns : List Int) : (strip ns).length = tlI ns ns.length := by
  unfold strip
  rw [List.length_take]
  exact Nat.min_eq_left (tlI_le _ _)
theorem take_getD {ns : List Int} {m i : Nat} (h : i < m) : (ns.take m).getD i 0 = ns.getD i 0 := by
  rw [List.getD_eq_getElem?_getD, List.getElem?_take, if_pos h, ← List.getD_eq_getElem?_getD]
theorem strip_last {ns : List Int} {m : Nat} (h : (strip ns).length = m + 1) : (strip ns).getD m 0 ≠ 0 := by
  have h2 := h
  rw [strip_len] at h2
  unfold strip
  rw [take_getD (by omega)]
  exact tlI_ne ns _ m h2
def gcdUp (s : List Int) : Nat → Int
  | 0 => 0
  | n + 1 => ((Nat.gcd (gcdUp s n).natAbs (s.getD n 0).natAbs : Nat) : Int)
def gcdI (s : List Int) : Int := gcdUp s s.length
def plainRow (ns : List Int) : List Int := (strip ns).map fun x => x.fdiv (gcdI (strip ns))
theorem bi_take {ns : List Int} (h : BI ns) (m : Nat) : BI (ns.take m) := fun x hx => h x (List.mem_of_mem_take hx)
theorem gcd_ok {ns : List Int} (h : BI ns) {n : Nat} (hn : n < (strip ns).length) : gcdI (strip ns) ≠ 0 ∧ (gcdI (strip ns)).natAbs < 2 ^ 4000 := by
  obtain ⟨m, hm⟩ : ∃ m, (strip ns).length = m + 1 := ⟨(strip ns).length - 1, by omega⟩
  have h0 := strip_last hm
  have hb := bi_get (bi_take h _ : BI (strip ns)) m
  unfold gcdI
  rw [hm]
  unfold gcdUp
  have h1 : 0 < Nat.gcd (gcdUp (strip ns) m).natAbs ((strip ns).getD m 0).natAbs := Nat.gcd_pos_of_pos_right _ (by omega)
  have h2 : Nat.gcd (gcdUp (strip ns) m).natAbs ((strip ns).getD m 0).natAbs ≤ ((strip ns).getD m 0).natAbs := Nat.gcd_le_right _ (by omega)
  exact ⟨by omega, by rw [Int.natAbs_natCast]; exact Nat.lt_of_le_of_lt h2 hb⟩
theorem bi_plain {ns : List Int} (h : BI ns) : BI (plainRow ns) := fun x hx => by
  obtain ⟨y, hy, rfl⟩ := List.mem_map.mp hx
  exact Nat.lt_of_le_of_lt (Int.natAbs_fdiv_le_natAbs _ _) (bi_take h _ y hy)
theorem plain_len (ns : List Int) : (plainRow ns).length ≤ ns.length := by
  unfold plainRow
  rw [List.length_map, strip_len]
  exact tlI_le _ _
theorem map_getI {f : Int → Int} {ns : List Int} {i : Nat} (h : i < ns.length) : (ns.map f).getD i 0 = f (ns.getD i 0) := by
  rw [List.getD_eq_getElem?_getD, List.getElem?_map, List.getElem?_eq_getElem h, List.getD_eq_getElem?_getD, List.getElem?_eq_getElem h]
  rfl
theorem each_iv {f : Int → Int} {ns : List Int} {ys : List V} {H : Hp} (h : Each ns.length (fun i => Is (.int (f (ns.getD i 0)))) ys H) : ys = iv (ns.map f) := by
  refine List.ext_getElem? fun i => ?_
  by_cases hi : i < ns.length
  · have hy : i < ys.length := by rw [h.1]; exact hi
    have := h.2 i ys[i] (List.getElem?_eq_getElem hy)
    rw [List.getElem?_eq_getElem hy, show ys[i] = _ from this, List.getElem?_map, List.getElem?_map, List.getElem?_eq_getElem hi, List.getD_eq_getElem?_getD, List.getElem?_eq_getElem hi]
    rfl
  · rw [List.getElem?_eq_none (by rw [h.1]; omega), List.getElem?_eq_none (by simp; omega)]
theorem iv_take (ns : List Int) (m : Nat) : (iv ns).take m = iv (ns.take m) := (List.map_take ..).symm
section
variable {P : Program} {w : World} {K : PySem.W.Frag} {mg : Str → Option Value} {base : Heap}
theorem c_product_of (T : Txt K mg) : Cal P w K mg base "product_of" 5 [] (spN (P2 fun u v H Po => ∃ a b, RL K a u H ∧ RL K b v H ∧ SzL a ∧ SzL b ∧ lcmQ a < 2 ^ 64 ∧ lcmQ b < 2 ^ 64 ∧ BI (topsQ a) ∧ BI (topsQ b) ∧ 1 ≤ a.length ∧ 1 ≤ b.length ∧ a.length ≤ 500 ∧ b.length ≤ 500 ∧ Po = NL H (RVs K (prodQ a b)))) := by
  refine (def2 (N := ["one", "other", "low", "near", "deep", "far", "top"]) T.f_Fproduct_of "one" "other" fun cdv A outer s E H u v Po Q hr nd ⟨a, b, hu, hv, sa, sb, La, Lb, ba, bb, a1, b1, la, lb, hPo⟩ hQ => ?_).named T.g_product_of
  subst hPo
  refine ss_ifF (pa := none) (ew_or2 (k := false) (k' := false) (et_eqI (ev_lenR T.n_len (ev_n 0 hu)) ev_int (decide_eq_false (by omega))) fun _ => ew_or1 (et_eqI (ev_lenR T.n_len (ev_n 1 hv)) ev_int (decide_eq_false (by omega)))).et fun H1 k1 => ?_
  refine ss_tup (pa := none) (Pa := Is (.int (lcmQ a : Nat))) (Pb := IL (topsQ a)) 2 3 (ev_c1 (c_wholes T) hr (by decide) (ev_n 0 (hu.kp k1)) fun x H2 k2 hx => ⟨_, ⟨a, hx, sa, La, la, rfl⟩, fun v H3 _ ⟨t, x, y, e, ht, hx, hy⟩ => ⟨t, x, y, e, ht, hx, hy.il⟩⟩) fun x y H2 k2 e1 h1 => ?_
  refine ss_tup (pa := none) (Pa := Is (.int (lcmQ b : Nat))) (Pb := IL (topsQ b)) 4 5 (ev_c1 (c_wholes T) hr (by decide) (ev_n 1 (hv.kp (k1.trans k2))) fun x H2 k2 hx => ⟨_, ⟨b, hx, sb, Lb, lb, rfl⟩, fun v H3 _ ⟨t, x, y, e, ht, hx, hy⟩ => ⟨t, x, y, e, ht, hx, hy.il⟩⟩) fun x' y' H3 k3 e2 h2 => ?_
  subst e1
  subst e2
  have k13 := (k1.trans k2).trans k3
  have h1' : IL (topsQ a) y H3 := Stb.st (pa := none) _ _ _ k3 h1
  have ne : ((lcmQ a : Nat) * (lcmQ b : Nat) : Int) ≠ 0 := Int.mul_ne_zero (by have := lcmUp_pos a a.length; unfold lcmQ; omega) (by have := lcmUp_pos b b.length; unfold lcmQ; omega)
  have lt : ((lcmQ a : Nat) * (lcmQ b : Nat) : Int).natAbs < 2 ^ 9000 := by
    rw [Int.natAbs_mul]
    exact mul8 (Nat.lt_trans La (by decide)) (Nat.lt_trans Lb (by decide))
  refine ss_ret (pa := none) (P := NL H (RVs K (prodQ a b))) ((ev_lcL (Pa := FI H3 (prodI (topsQ a) (topsQ b))) 6 (iv (prodI (topsQ a) (topsQ b))) (fun i => IsR K (Rat.divInt ((prodI (topsQ a) (topsQ b)).getD i 0) ((lcmQ a : Nat) * (lcmQ b : Nat) : Int)))
    (ev_c2 (c_int_product T) hr (by decide) (ev_n 3 h1') (ev_n 5 h2) fun x y H4 k4 hx hy => ⟨_, ⟨_, _, hx, hy, ba, bb, by rw [topsQ_len]; exact a1, by rw [topsQ_len]; exact b1, by rw [topsQ_len]; exact la, by rw [topsQ_len]; exact lb, rfl⟩, fun v H5 _ h => h.back k4⟩) potN ?_
    (fun v' H' k h => ?_) fun n y H' hy k s0 H0 C cl fp => ?_).imp fun v' H' k h => ?_) fun v' H' k h => hQ v' H' (k13.trans k) h
  · rw [List.length_map]
    unfold prodI
    rw [prodN_len, topsQ_len, topsQ_len]
    omega
  · obtain ⟨q, e, hq⟩ := h.il
    exact ⟨q, e, fun H'' k2 => SqL.of (k2.get0 hq)⟩
  · have ey := iv_get hy
    subst ey
    exact ev_rat2 T hr ne lt (ev_v 6) (ev_mul (cddW (Nat.lt_trans La (by decide)) (Nat.lt_trans Lb (by decide))) (ev_v 2) (ev_v 4))
  · rw [List.length_map] at h
    obtain ⟨q, xs, e, n, hq, r⟩ := h
    exact ⟨q, xs, e, k13.free n, hq, each_map r⟩
theorem c_square_of (T : Txt K mg) : Cal P w K mg base "square_of" 6 [] (spN (P1 fun u H Po => ∃ a, RL K a u H ∧ SzL a ∧ lcmQ a < 2 ^ 64 ∧ BI (topsQ a) ∧ 1 ≤ a.length ∧ a.length ≤ 500 ∧ Po = NL H (RVs K (prodQ a a)))) := by
  refine (def1 (N := ["poly"]) T.f_Fsquare_of "poly" fun cdv A outer s E H u Po Q hr nd ⟨a, hu, sa, La, ba, a1, la, hPo⟩ hQ => ?_).named T.g_square_of
  subst hPo
  exact ss_ret (pa := none) (ev_c2 (c_product_of T) hr (by decide) (ev_n 0 hu) (ev_n 0 hu) fun x y H1 k hx hy => ⟨_, ⟨a, a, hx, hy, sa, sa, La, La, ba, ba, a1, a1, la, la, rfl⟩, fun v H2 _ h => h.back k⟩) hQ
theorem c_plain_row (T : Txt K mg) : Cal P w K mg base "plain_row" 2 [] (spN (P1 fun u H Po => ∃ a, IL a u H ∧ BI a ∧ a.length ≤ 1000 ∧ Po = FI H (plainRow a))) := by
  refine (def1 (N := ["numbers", "many", "common", "number"]) T.f_Fplain_row "numbers" fun cdv A outer s E H u Po Q hr nd ⟨a, hu, ba, la, hPo⟩ hQ => ?_).named T.g_plain_row
  subst hPo
  refine ss_tup (pa := none) (Pa := Is (.int a.length)) (Pb := Is (.int 0)) 1 2 (ev_tup2 (ev_lenI T.n_len (ev_n 0 hu)) ev_int) fun x y H1 k1 e1 e2 => ?_
  subst e1
  subst e2
  refine ss_while (pa := none) (fun n σ H' => n ≤ a.length ∧ σ = [some u, some (V.int n), some (V.int 0), none] ∧ Kp none H H' ∧ tlI a n = tlI a a.length) a.length ⟨Nat.le_refl _, rfl, k1, rfl⟩ fun n σ' H' ⟨hm, hσ, k2, ht⟩ => ?_
  subst hσ
  have hu2 : IL a u H' := Stb.st (pa := none) _ _ _ k2 hu
  refine ⟨_, (ew_and2 (k := decide ((0 : Int) < n)) (k' := decide (a.getD (n - 1) 0 = 0)) (et_gt (ev_v 1) ev_int rfl) fun h0 => ew_and1 (et_eqI (ev_ixI (ev_n 0 hu2) (ev_sub (ev_v 1) ev_int) (n - 1) ?_) ev_int rfl)).et, fun H3 k3 e3 => ?_, fun H3 k3 e3 => ?_⟩
  · have := of_decide_eq_true h0
    have e : ((n : Int) - 1) = ((n - 1 : Nat) : Int) := by omega
    rw [e]
    exact ixN_nat (by omega)
  · obtain ⟨h0, h1⟩ := Bool.and_eq_true_iff.mp e3.symm
    have h0 := of_decide_eq_true h0
    have h1 := of_decide_eq_true h1
    refine ss_set (pa := none) 1 (ev_sub (ev_v 1) ev_int) fun v H4 k4 e4 => ss_nil ?_
    subst e4
    have e : ((n : Int) - 1) = ((n - 1 : Nat) : Int) := by omega
    refine ⟨n - 1, by omega, by omega, by rw [e]; rfl, (k2.trans k3).trans k4, ?_⟩
    rw [← ht]
    have e2 : n = (n - 1) + 1 := by omega
    conv => rhs; rw [e2]
    show _ = if a.getD (n - 1) 0 = 0 then _ else _
    rw [if_pos h1]
  · have et : tlI a n = n := by
      cases n with
      | zero => rfl
      | succ n =>
        show (if a.getD n 0 = 0 then _ else _) = _
        rw [if_neg]
        intro z
        have e3 : false = (decide ((0 : Int) < ((n + 1 : Nat) : Int)) && decide (a.getD (n + 1 - 1) 0 = 0)) := e3
        rw [decide_eq_true (by omega), Nat.add_sub_cancel, decide_eq_true z] at e3
        cases e3
    have es : strip a = a.take n := by unfold strip; rw [← ht, et]
    refine ss_forL (pa := none) (P := FI H3 (strip a)) 3 (iv (strip a)) (fun q m σ H' => Kp none H3 H' ∧ H3 q = none ∧ H' q = some (.lst (iv (strip a))) ∧ ∃ o, σ = [some u, some (V.int n), some (V.int (gcdUp (strip a) m)), o])
      (ev_sl (ev_n 0 (Stb.st (pa := none) _ _ _ k3 hu2)) eo_none (eo_some (ev_v 1)) fun v' H' k ⟨p, e, hp⟩ => ⟨p, _, e, SqL.of hp, fun q hq => ⟨q, _, rfl, k.free hq, upd_same, by rw [cut_take (by rw [List.length_map]; exact hm), iv_take, es]⟩⟩)
      (fun v H' k h => ?_) (fun q i σ' H' _ ⟨k, _, hq, _⟩ => SqL.of hq) (fun q m y σ' H4 hy ⟨k4, hq0, hq, o, hσ⟩ => ?_) (fun q σ' H4 ⟨k4, hq0, hq, o, hσ⟩ => ?_)
    · obtain ⟨q, xs, e, hq0, hq, ex⟩ := h
      exact ⟨q, e, k, hq0, by rw [hq, ex], _, rfl⟩
    · subst hσ
      have ey := iv_get hy
      subst ey
      refine ss_set (pa := none) 2 (P := Is (.int (gcdUp (strip a) (m + 1)))) (ev_c2 (c_common_part T) hr (by decide) (ev_v 2) (ev_v 3) fun v u' H5 _ e1 e2 => ⟨_, ⟨_, _, e1, e2, rfl⟩, fun _ _ _ h => h⟩) fun v H5 k5 e5 => ss_nil ⟨k4.trans k5, hq0, k5.get0 hq, some (.int ((strip a).getD m 0)), by rw [show v = _ from e5]; rfl⟩
    · subst hσ
      rw [List.length_map]
      refine ss_ret (pa := none) (P := FI H (plainRow a)) ((ev_lcL (Pa := FI H4 (strip a)) 3 (iv (strip a)) (fun i => Is (.int (((strip a).getD i 0).fdiv (gcdI (strip a)))))
        (ev_sl (ev_n 0 (Stb.st (pa := none) _ _ _ (k3.trans k4) hu2)) eo_none (eo_some (ev_v 1)) fun v' H' k ⟨p, e, hp⟩ => ⟨p, _, e, SqL.of hp, fun q hq => ⟨q, _, rfl, k.free hq, upd_same, by rw [cut_take (by rw [List.length_map]; exact hm), iv_take, es]⟩⟩)
        potN (by rw [List.length_map, strip_len]; have := tlI_le a a.length; omega) (fun v' H' k h => ?_) fun m y H' hy k s0 H0 C cl fp => ?_).imp fun v' H' k h => ?_) fun v' H' k h => hQ v' H' (((k2.trans k3).trans k4).trans k) h
      · obtain ⟨q, e, hq⟩ := h.il
        exact ⟨q, e, fun H'' k2 => SqL.of (k2.get0 hq)⟩
      · have hg := getD_of hy
        have ey := hg.1
        subst ey
        obtain ⟨g0, g1⟩ := gcd_ok ba hg.2
        exact ev_fdiv ⟨g0, log2_lt (lt9 g1) (by decide)⟩ (ev_v 3) (ev_v 2)
      · rw [List.length_map] at h
        obtain ⟨q, xs, e, n, hq, r⟩ := h
        exact ⟨q, xs, e, ((k2.trans k3).trans k4).free n, hq, each_iv (f := fun x => x.fdiv (gcdI (strip a))) r⟩
end
end RR
-- RW1
namespace RR
open PySem PySem.Spec PyProof.Rows L2
def lastI (ns : List Int) : Int := ns.getD (ns.length - 1) 0
def subStep (c : Int) (other : List Int) (i : Nat) (f : List Int) : Nat → List Int
  | 0 => f
  | n + 1 => (subStep c other i f n).set (i + n) ((subStep c other i f n).getD (i + n) 0 - c * other.getD n 0)
theorem subStep_len {c : Int} {far f : List Int} {i : Nat} : ∀ n, (subStep c far i f n).length = f.length
  | 0 => rfl
  | n + 1 => by
    unfold subStep
    rw [List.length_set, subStep_len n]
def lastR (other rest : List Int) : Int := if 0 < lastI other then lastI rest else 0 - lastI rest
def stepR (other rest : List Int) : List Int := subStep (lastR other rest) other (rest.length - other.length) (rest.map fun x => x * ((lastI other).natAbs : Int)) other.length
def biB (ns : List Int) : Bool := ns.all fun x => decide (x.natAbs < 2 ^ 4000)
theorem biB_ok {ns : List Int} (h : biB ns = true) : BI ns := fun x hx => of_decide_eq_true (List.all_eq_true.mp h x hx)
def restF (other : List Int) : Nat → List Int → Option (List Int)
  | 0, _ => none
  | n + 1, rest => if rest.length < other.length then some (plainRow rest) else if biB (stepR other rest) then restF other n (plainRow (stepR other rest)) else none
theorem stepR_len (other rest : List Int) : (stepR other rest).length = rest.length := by
  unfold stepR
  rw [subStep_len, List.length_map]
theorem restF_ok {other : List Int} : ∀ {n : Nat} {rest out : List Int}, BI rest → restF other n rest = some out → BI out ∧ out.length ≤ rest.length
  | 0, _, _, _, h => by cases h
  | n + 1, rest, out, b, h => by
    unfold restF at h
    split at h
    · cases h
      exact ⟨bi_plain b, plain_len _⟩
    · split at h
      · rename_i hb
        obtain ⟨c, d⟩ := restF_ok (bi_plain (biB_ok hb)) h
        exact ⟨c, Nat.le_trans d (Nat.le_trans (plain_len _) (by rw [stepR_len]; exact Nat.le_refl _))⟩
      · cases h
def commF : Nat → List Int → List Int → Option (List Int)
  | 0, _, _ => none
  | n + 1, near, far => if far.length = 0 then some near else match restF far 60 near with
    | none => none
    | some r => commF n far r
section
variable {P : Program} {w : World} {K : PySem.W.Frag} {mg : Str → Option Value} {base : Heap}
theorem c_int_rest (T : Txt K mg) : Cal P w K mg base "int_rest" 3 [] (spN (P2 fun u v H Po => ∃ a b out, IL a u H ∧ IL b v H ∧ BI a ∧ BI b ∧ 1 ≤ b.length ∧ a.length ≤ 500 ∧ b.length ≤ 500 ∧ restF b 60 a = some out ∧ Po = FI H out)) := by
  refine (def2 (N := ["one", "other", "rest", "head", "shift", "last", "number", "at"]) T.f_Fint_rest "one" "other" fun cdv A outer s E H u v Po Q hr nd ⟨a, b, out, hu, hv, ba, bb, b1, la, lb, hout, hPo⟩ hQ => ?_).named T.g_int_rest
  subst hPo
  obtain ⟨pu, rfl, hu0⟩ := id hu
  obtain ⟨pv, rfl, hv0⟩ := id hv
  have hbl : ixN b.length (-1) = some (b.length - 1) := ixN_last (by omega)
  refine ss_tup (pa := none) (Pa := FI H a) (Pb := Is (.int ((lastI b).natAbs : Int))) 2 3 (ev_tup2 (ev_listOf T.n_list (ev_n 0 hu) fun v' H' k ⟨p, e, hp⟩ => ⟨p, _, e, .inl (SqL.of hp), fun q hq => ⟨q, _, rfl, k.free hq, upd_same, rfl⟩⟩) (ev_abs T.n_abs (ev_ixI (ev_n 1 hv) (ev_neg ev_int) _ hbl))) fun x y H1 k1 hx e2 => ?_
  subst e2
  obtain ⟨p0, xs0, rfl, hp0, hp1, rfl⟩ := hx
  refine ss_while (pa := none) (fun n σ H' => ∃ rest p o4 o5 o6 o7, restF b n rest = some out ∧ BI rest ∧ rest.length ≤ 500 ∧ Kp none H H' ∧ H p = none ∧ H' p = some (.lst (iv rest)) ∧ σ = [some (V.ref pu), some (V.ref pv), some (V.ref p), some (V.int ((lastI b).natAbs : Int)), o4, o5, o6, o7]) 60
    ⟨a, p0, _, _, _, _, hout, ba, la, k1, hp0, hp1, rfl⟩ fun n σ' H2 ⟨rest, p, o4, o5, o6, o7, hF, br, lr, k2, hp0, hp2, hσ⟩ => ?_
  subst hσ
  have hrest : IL rest (V.ref p) H2 := ⟨p, rfl, hp2⟩
  have hv2 : IL b (V.ref pv) H2 := Stb.st (pa := none) _ _ _ k2 hv
  refine ⟨_, et_ge (k := decide (b.length ≤ rest.length)) (ev_lenI T.n_len (ev_n 2 hrest)) (ev_lenI T.n_len (ev_n 1 hv2)) (decide_eq_decide.mpr (by omega)), fun H3 k3 e3 => ?_, fun H3 k3 e3 => ?_⟩
  · have hge : b.length ≤ rest.length := of_decide_eq_true e3.symm
    cases n with
    | zero => cases hF
    | succ n =>
      unfold restF at hF
      rw [if_neg (by omega)] at hF
      split at hF
      · rename_i hbi
        have hbi := biB_ok hbi
        have hv3 : IL b (V.ref pv) H3 := Stb.st (pa := none) _ _ _ k3 hv2
        have hr3 : IL rest (V.ref p) H3 := Stb.st (pa := none) _ _ _ k3 hrest
        have hrl : ixN rest.length (-1) = some (rest.length - 1) := ixN_last (by omega)
        refine ss_par (pa := none) (Pa := Is (.int ((rest.length - b.length : Nat) : Int))) (Pb := Is (.int (lastR b rest))) 4 5 (eva2 ?_ (ev_if (k := decide (0 < lastI b)) (et_gt (ev_ixI (ev_n 1 hv3) (ev_neg ev_int) _ hbl) ev_int rfl) (fun h => ?_) (fun h => ?_))) fun x y H4 k4 e1 e2 => ?_
        · rw [Int.ofNat_sub hge]
          exact ev_sub (ev_lenI T.n_len (ev_n 2 hr3)) (ev_lenI T.n_len (ev_n 1 hv3))
        · unfold lastR
          rw [if_pos (of_decide_eq_true h)]
          exact ev_ixI (ev_n 2 hr3) (ev_neg ev_int) _ hrl
        · unfold lastR
          rw [if_neg (of_decide_eq_false h)]
          exact ev_sub ev_int (ev_ixI (ev_n 2 hr3) (ev_neg ev_int) _ hrl)
        subst e1
        subst e2
        have k24 := (k2.trans k3).trans k4
        have hr4 : IL rest (V.ref p) H4 := Stb.st (pa := none) _ _ _ k4 hr3
        have hlb : ((lastI b).natAbs) < 2 ^ 4000 := bi_get bb _
        have hlr : (lastR b rest).natAbs < 2 ^ 4000 := by
          have := bi_get br (rest.length - 1)
          unfold lastR lastI
          split
          · exact this
          · rw [Int.zero_sub, Int.natAbs_neg]
            exact this
        refine ss_setL (pa := none) 2 6 (iv rest) (fun i => Is (.int (rest.getD i 0 * ((lastI b).natAbs : Int)))) (ev_n 2 hr4) potN (by rw [List.length_map]; omega) (fun v' H' k ⟨q, e, hq⟩ => ⟨q, e, fun H'' k' => SqL.of (k'.get0 hq)⟩) (fun m y H' hy k s0 H0 C cl fp => ?_) fun x H5 k5 hx => ?_
        · have ey := iv_get hy
          subst ey
          exact ev_mul (cm (bi_get br m) (by rw [Int.natAbs_natCast]; exact hlb)) (ev_v 6) (ev_v 3)
        · rw [List.length_map] at hx
          obtain ⟨p5, xs5, rfl, n5, hp5, r5⟩ := hx
          have r5 := each_iv (f := fun x => x * ((lastI b).natAbs : Int)) r5
          subst r5
          have n5H : H p5 = none := k24.free n5
          refine ss_forE (pa := none) 7 6 (iv b) (fun q m σ H' => q = pv ∧ Kp none H H' ∧ H' p5 = some (.lst (iv (subStep (lastR b rest) b (rest.length - b.length) (rest.map fun x => x * ((lastI b).natAbs : Int)) m))) ∧
            ∃ o6 o7, σ = [some (V.ref pu), some (V.ref pv), some (V.ref p5), some (V.int ((lastI b).natAbs : Int)), some (V.int ((rest.length - b.length : Nat) : Int)), some (V.int (lastR b rest)), o6, o7]) T.n_enumerate (ev_v 1)
            (fun z H' k e => ⟨pv, e, rfl, (k24.trans k5).trans k, k.get0 hp5, _, _, rfl⟩) (fun q i σ' H' _ ⟨e, k, _⟩ => by subst e; exact SqL.of (k.get0 hv0)) (fun q m y σ' H6 H7 hy ⟨e, k6, hp6, o6, o7, hσ⟩ k7 => ?_) (fun q σ' H6 ⟨e, k6, hp6, o6, o7, hσ⟩ => ?_)
          · obtain ⟨ey, hm⟩ := getD_of hy
            subst ey
            subst hσ
            have hl : (rest.length - b.length) + m < (subStep (lastR b rest) b (rest.length - b.length) (rest.map fun x => x * ((lastI b).natAbs : Int)) m).length := by rw [subStep_len, List.length_map]; omega
            have hix : ixN (subStep (lastR b rest) b (rest.length - b.length) (rest.map fun x => x * ((lastI b).natAbs : Int)) m).length (((rest.length - b.length : Nat) : Int) + (m : Int)) = some ((rest.length - b.length) + m) := by
              rw [show (((rest.length - b.length : Nat) : Int) + (m : Int)) = (((rest.length - b.length) + m : Nat) : Int) by omega]
              exact ixN_nat hl
            have hi7 : IL (subStep (lastR b rest) b (rest.length - b.length) (rest.map fun x => x * ((lastI b).natAbs : Int)) m) (V.ref p5) H7 := ⟨p5, rfl, k7.get0 hp6⟩
            refine ss_sub (pa := none) (ev_sub (ev_ixI (ev_n 2 hi7) (ev_add (ev_v 4) (ev_v 7)) _ hix) (ev_mul (cm hlr (bi_get bb m)) (ev_v 5) (ev_v 6))) (ev_v 2) (ev_add (ev_v 4) (ev_v 7)) fun v' x' y' H8 k8 e1 e2 e3 => ?_
            subst e1
            subst e2
            subst e3
            refine ⟨p5, _, _, _, rfl, rfl, k8.get0 (k7.get0 hp6), by rw [List.length_map]; exact hix, ss_nil ⟨e, ((k6.trans k7).trans k8).mut n5H, ?_, _, _, rfl⟩⟩
            rw [upd_same]
            exact congrArg (fun z => some (HO.lst z)) (iv_set _ _ _).symm
          · subst hσ
            rw [List.length_map] at hp6
            have hs6 : IL (stepR b rest) (V.ref p5) H6 := ⟨p5, rfl, hp6⟩
            refine ss_set (pa := none) 2 (P := FI H (plainRow (stepR b rest))) (ev_c1 (c_plain_row T) hr (by decide) (ev_n 2 hs6) fun x H7 k7 hx => ⟨_, ⟨_, hx, hbi, by rw [stepR_len]; omega, rfl⟩, fun v H8 _ h => h.back (k6.trans k7)⟩) fun x H7 k7 hx => ss_nil ?_
            obtain ⟨p7, xs7, rfl, n7, hp7, rfl⟩ := hx
            exact ⟨n, Nat.lt_succ_self n, plainRow (stepR b rest), p7, _, _, _, _, hF, bi_plain hbi, Nat.le_trans (plain_len _) (by rw [stepR_len]; exact lr), k6.trans k7, n7, hp7, rfl⟩
      · cases hF
  · have hlt : rest.length < b.length := by have := of_decide_eq_false e3.symm; omega
    have ho : plainRow rest = out := by
      cases n with
      | zero => cases hF
      | succ n =>
        unfold restF at hF
        rw [if_pos hlt] at hF
        exact Option.some.inj hF
    exact ss_ret (pa := none) (P := FI H out) (ev_c1 (c_plain_row T) hr (by decide) (ev_n 2 (Stb.st (pa := none) _ _ _ k3 hrest)) fun x H4 k4 hx => ⟨_, ⟨_, hx, br, by omega, rfl⟩, fun v H5 _ h => by rw [← ho]; exact h.back ((k2.trans k3).trans k4)⟩) fun v' H' k h => hQ v' H' ((k2.trans k3).trans k) h
end
end RR
-- RX1
namespace RR
open PySem PySem.Spec PyProof.Rows L2
section
variable {X : Cx} {pa : Option Addr} {σ : L2.St} {H H' : Hp} {a b : Expr} {pos p : Pos} {Pa : V → Hp → Prop} {v : V} {i j : Int}
/-- e is None, the value known -/
theorem et_isN {k : Bool} {j} {p2 : Pos} (ha : Ev pa X a σ H Pa) [Stb pa Pa] (h : ∀ v H', Kp pa H H' → Pa v H' → decide (v = .non) = k) : Eb pa X (.Compare a [.Is] [.Constant .none j p2] pos) σ H k :=
  et_cmp op_isN (nomark _) ha ev_non fun x y H2 Q k1 px py q => ⟨py, q _ H2 (Kp.refl _) (h x H2 k1 px)⟩
end
section
variable {P : Program} {w : World} {K : PySem.W.Frag} {mg : Str → Option Value} {base : Heap}
theorem plainRow_FI {H0 H1 : Hp} {pa : Option Addr} {ns : List Int} {v : V} {H2 : Hp} (k : Kp pa H0 H1) (h : FI H1 ns v H2) : FI H0 ns v H2 := NL.back h k
theorem c_int_common (T : Txt K mg) : Cal P w K mg base "int_common" 4 [] (spN (P2 fun u v H Po => ∃ a b out, IL a u H ∧ IL b v H ∧ BI a ∧ BI b ∧ a.length ≤ 500 ∧ b.length ≤ 500 ∧ commF 60 (plainRow a) (plainRow b) = some out ∧ Po = FI H out)) := by
  refine (def2 (N := ["one", "other", "near", "far"]) T.f_Fint_common "one" "other" fun cdv A outer s E H u v Po Q hr nd ⟨a, b, out, hu, hv, ba, bb, la, lb, hout, hPo⟩ hQ => ?_).named T.g_int_common
  subst hPo
  refine ss_par (pa := none) (Pa := FI H (plainRow a)) (Pb := FI H (plainRow b)) 2 3 (eva2 (ev_c1 (c_plain_row T) hr (by decide) (ev_n 0 hu) fun x H1 k1 hx => ⟨_, ⟨a, hx, ba, by omega, rfl⟩, fun v H2 _ h => h.back k1⟩) (ev_c1 (c_plain_row T) hr (by decide) (ev_n 1 hv) fun x H1 k1 hx => ⟨_, ⟨b, hx, bb, by omega, rfl⟩, fun v H2 _ h => h.back k1⟩)) fun x y H1 k1 hx hy => ?_
  refine ss_while (pa := none) (fun n σ H' => ∃ c d x y, commF n c d = some out ∧ BI c ∧ BI d ∧ c.length ≤ 500 ∧ d.length ≤ 500 ∧ FI H c x H' ∧ FI H d y H' ∧ Kp none H H' ∧ σ = [some u, some v, some x, some y]) 60
    ⟨plainRow a, plainRow b, x, y, hout, bi_plain ba, bi_plain bb, Nat.le_trans (plain_len a) la, Nat.le_trans (plain_len b) lb, hx, hy, k1, rfl⟩ fun n σ' H2 ⟨c, d, x, y, hF, bc, bd, lc, ld, hx, hy, k2, hσ⟩ => ?_
  subst hσ
  refine ⟨_, et_gt (k := decide (0 < d.length)) (ev_lenI T.n_len (ev_n 3 hy.il)) ev_int (decide_eq_decide.mpr (by omega)), fun H3 k3 e3 => ?_, fun H3 k3 e3 => ?_⟩
  · have hd : 0 < d.length := of_decide_eq_true e3.symm
    cases n with
    | zero => cases hF
    | succ n =>
      unfold commF at hF
      rw [if_neg (by omega)] at hF
      cases hR : restF d 60 c with
      | none => rw [hR] at hF; cases hF
      | some r =>
        rw [hR] at hF
        have ok := restF_ok bc hR
        have hy3 : FI H d y H3 := Stb.st (pa := none) _ _ _ k3 hy
        have hx3 : FI H c x H3 := Stb.st (pa := none) _ _ _ k3 hx
        refine ss_par (pa := none) (Pa := FI H d) (Pb := FI H r) 2 3 (eva2 (ev_n 3 hy3) (ev_c2 (c_int_rest T) hr (by decide) (ev_n 2 hx3.il) (ev_n 3 hy3.il) fun x' y' H4 k4 hx' hy' => ⟨_, ⟨c, d, r, hx', hy', bc, bd, hd, lc, ld, hR, rfl⟩, fun v H5 _ h => h.back ((k2.trans k3).trans k4)⟩)) fun x' y' H4 k4 hx' hy' => ss_nil ?_
        exact ⟨n, Nat.lt_succ_self n, d, r, x', y', hF, bd, ok.1, ld, Nat.le_trans ok.2 lc, hx', hy', (k2.trans k3).trans k4, rfl⟩
  · have hd : d.length = 0 := by have := of_decide_eq_false e3.symm; omega
    have ho : c = out := by
      cases n with
      | zero => cases hF
      | succ n =>
        unfold commF at hF
        rw [if_pos hd] at hF
        exact Option.some.inj hF
    subst ho
    exact ss_ret (pa := none) (ev_n (P := FI H c) 2 (Stb.st (pa := none) _ _ _ k3 hx)) fun v' H' k h => hQ v' H' ((k2.trans k3).trans k) h
/-- e[1] of a new pair -/
theorem ev_snd {X : Cx} {pa : Option Addr} {σ : L2.St} {H : Hp} {a : Expr} {pos p : Pos} {j} {Pa Pb : V → Hp → Prop} [Stb pa Pa] [Stb pa Pb] (ha : Ev pa X a σ H (Tup2 Pa Pb)) (hs : PlainIx (.Constant (.int 1) j p) := by intro _ _; rfl) : Ev pa X (.Subscript a (.Constant (.int 1) j p) pos) σ H Pb :=
  ev_ixT ha ev_int (fun v H' _ ⟨t, x, y, e, ht, px, py⟩ => ⟨t, _, y, e, SqT.of ht, rfl, py⟩) hs
theorem ev_fst {X : Cx} {pa : Option Addr} {σ : L2.St} {H : Hp} {a : Expr} {pos p : Pos} {j} {Pa Pb : V → Hp → Prop} [Stb pa Pa] [Stb pa Pb] (ha : Ev pa X a σ H (Tup2 Pa Pb)) (hs : PlainIx (.Constant (.int 0) j p) := by intro _ _; rfl) : Ev pa X (.Subscript a (.Constant (.int 0) j p) pos) σ H Pa :=
  ev_ixT ha ev_int (fun v H' _ ⟨t, x, y, e, ht, px, py⟩ => ⟨t, _, x, e, SqT.of ht, rfl, px⟩) hs
/-- how many numbers the common part has -/
theorem c_common_of (T : Txt K mg) : Cal P w K mg base "common_of" 5 [] (spN (P2 fun u v H Po => ∃ a b out, RL K a u H ∧ RL K b v H ∧ SzL a ∧ SzL b ∧ lcmQ a < 2 ^ 64 ∧ lcmQ b < 2 ^ 64 ∧ BI (topsQ a) ∧ BI (topsQ b) ∧ a.length ≤ 500 ∧ b.length ≤ 500 ∧ commF 60 (plainRow (topsQ a)) (plainRow (topsQ b)) = some out ∧ out.length ≤ 500 ∧ lastI out ≠ 0 ∧ (lastI out).natAbs < 2 ^ 4000 ∧
    Po = NL H (RVs K (out.map fun t => Rat.divInt t (lastI out))))) := by
  refine (def2 (N := ["one", "other", "near", "number"]) T.f_Fcommon_of "one" "other" fun cdv A outer s E H u v Po Q hr nd ⟨a, b, out, hu, hv, sa, sb, La, Lb, ba, bb, la, lb, hout, lo, l0, ll, hPo⟩ hQ => ?_).named T.g_common_of
  subst hPo
  refine ss_set (pa := none) 2 (P := FI H out) (ev_c2 (c_int_common T) hr (by decide)
    (ev_snd (Pa := Is (.int (lcmQ a : Nat))) (Pb := IL (topsQ a)) (ev_c1 (c_wholes T) hr (by decide) (ev_n 0 hu) fun x H2 k2 hx => ⟨_, ⟨a, hx, sa, La, la, rfl⟩, fun v H3 _ ⟨t, x, y, e, ht, hx, hy⟩ => ⟨t, x, y, e, ht, hx, hy.il⟩⟩))
    (ev_snd (Pa := Is (.int (lcmQ b : Nat))) (Pb := IL (topsQ b)) (ev_c1 (c_wholes T) hr (by decide) (ev_n 1 hv) fun x H2 k2 hx => ⟨_, ⟨b, hx, sb, Lb, lb, rfl⟩, fun v H3 _ ⟨t, x, y, e, ht, hx, hy⟩ => ⟨t, x, y, e, ht, hx, hy.il⟩⟩))
    fun x y H1 k1 hx hy => ⟨_, ⟨_, _, out, hx, hy, ba, bb, by rw [topsQ_len]; exact la, by rw [topsQ_len]; exact lb, hout, rfl⟩, fun v H2 _ h => h.back k1⟩) fun x H1 k1 hx => ?_
  refine ss_ret (pa := none) (P := NL H (RVs K (out.map fun t => Rat.divInt t (lastI out)))) ((ev_lcL (Pa := FI H out) 3 (iv out) (fun i => IsR K (Rat.divInt (out.getD i 0) (lastI out))) (ev_n 2 hx) potN (by rw [List.length_map]; omega) (fun v' H' k h => ?_) fun n y H' hy k s0 H0 C cl fp => ?_).imp fun v' H' k h => ?_) fun v' H' k h => hQ v' H' (k1.trans k) h
  · obtain ⟨q, e, hq⟩ := h.il
    exact ⟨q, e, fun H'' k2 => SqL.of (k2.get0 hq)⟩
  · obtain ⟨ey, hn⟩ := getD_of hy
    subst ey
    have hx' : IL out x H' := Stb.st (pa := none) _ _ _ k hx.il
    exact ev_rat2 T hr l0 (lt9 ll) (ev_v 3) (ev_ixI (ev_n 2 hx') (ev_neg ev_int) _ (ixN_last (by omega)))
  · rw [List.length_map] at h
    obtain ⟨q, xs, e, n, hq, r⟩ := h
    exact ⟨q, xs, e, k1.free n, hq, each_map r⟩
theorem c_is_squared (T : Txt K mg) : Cal P w K mg base "is_squared" 7 [] (spN (P1 fun u H Po => ∃ a out, RL K a u H ∧ SzL a ∧ SzL (slopeP a) ∧ lcmQ a < 2 ^ 64 ∧ lcmQ (slopeP a) < 2 ^ 64 ∧ BI (topsQ a) ∧ BI (topsQ (slopeP a)) ∧ 1 ≤ a.length ∧ a.length ≤ 500 ∧ commF 60 (plainRow (topsQ a)) (plainRow (topsQ (slopeP a))) = some out ∧ out.length ≤ 1 ∧ lastI out ≠ 0 ∧ (lastI out).natAbs < 2 ^ 4000 ∧
    Po = Is (.bl false))) := by
  refine (def1 (N := ["poly"]) T.f_Fis_squared "poly" fun cdv A outer s E H u Po Q hr nd ⟨a, out, hu, sa, ss, La, Ls, ba, bs, a1, la, hout, lo, l0, ll, hPo⟩ hQ => ?_).named T.g_is_squared
  subst hPo
  refine ss_ret (pa := none) ((ev_gt (i := ((out.map fun t => Rat.divInt t (lastI out)).length : Nat)) (j := 1) (ev_lenR T.n_len (ev_c2 (Pb := NL H (RVs K (slopeP a))) (c_common_of T) hr (by decide) (ev_n 0 hu) (ev_c1 (c_slope_of T) hr (by decide) (ev_n 0 hu) fun x H1 k1 hx => ⟨_, ⟨a, hx, sa, a1, la, rfl⟩, fun v H2 _ h => h.back k1⟩)
    fun x y H1 k1 hx hy => ⟨_, ⟨a, slopeP a, out, hx, hy.rl, sa, ss, La, Ls, ba, bs, la, by unfold slopeP; rw [mk_len]; omega, hout, by omega, l0, ll, rfl⟩, fun v H2 _ h => h.rl⟩)) ev_int).imp fun v H' _ e => ?_) hQ
  rw [show v = _ from e, List.length_map, decide_eq_false (by omega)]
  rfl
end
end RR
-- RX2
namespace RR
open PySem PySem.Spec PyProof.Rows L2
def pw (i : Int) : Nat → Int
  | 0 => 1
  | n + 1 => pw i n * i
section
variable {P : Program} {w : World} {K : PySem.W.Frag} {mg : Str → Option Value} {base : Heap}
theorem c_power_of (T : Txt K mg) : Cal P w K mg base "power_of" 1 [] (spN (P2 fun u v H Po => ∃ i : Int, u = .int i ∧ v = .int 2 ∧ i.natAbs < 2 ^ 2000 ∧ Po = Is (.int (i * i)))) := by
  refine (def2 (N := ["number", "many", "found", "turn"]) T.f_Fpower_of "number" "many" fun cdv A outer s E H u v Po Q hr nd ⟨i, e1, e2, hi, hPo⟩ hQ => ?_).named T.g_power_of
  subst hPo
  subst e1
  subst e2
  refine ss_set (pa := none) 2 ev_int fun x H1 k1 e => ?_
  subst e
  refine ss_forR1 (pa := none) (z := 2) 3 (fun n σ H' => Kp none H H' ∧ ∃ o, σ = [some (V.int i), some (V.int 2), some (V.int (pw i n)), o]) T.n_range (ev_v 1) (by decide) (fun H' k => ⟨k1.trans k, _, rfl⟩) (fun n σ' H2 hn ⟨k2, o, hσ⟩ => ?_) (fun σ' H2 ⟨k2, o, hσ⟩ => ?_)
  · subst hσ
    refine ss_set (pa := none) 2 (ev_mul ?_ (ev_v 2) (ev_v 0)) fun x H3 k3 e3 => ss_nil ⟨k2.trans k3, some (.int (n : Nat)), by subst e3; rfl⟩
    have hn : n < 2 := hn
    have h1 : i.natAbs < 2 ^ 9000 := Nat.lt_trans hi (by decide)
    refine cmulw ?_ h1
    match n, hn with
    | 0, _ => show ((1 : Int)).natAbs < _; decide
    | 1, _ => show ((1 : Int) * i).natAbs < _; rw [Int.one_mul]; exact h1
  · subst hσ
    refine ss_ret (pa := none) (ev_v 2) fun v' H' k h => hQ v' H' (k2.trans k) ?_
    rw [show v' = _ from h]
    show V.int ((1 * i) * i) = V.int (i * i)
    rw [Int.one_mul]
theorem sq_le {a b : Nat} : (((a : Int) * (a : Int)) ≤ ((b : Int) * (b : Int))) ↔ a ≤ b := by
  constructor
  · intro h
    refine Decidable.byContradiction fun hn => ?_
    have h1 : b * b < a * a := Nat.mul_self_lt_mul_self (by omega)
    have h2 : ((b * b : Nat) : Int) < ((a * a : Nat) : Int) := Int.ofNat_lt.mpr h1
    rw [Int.natCast_mul, Int.natCast_mul] at h2
    omega
  · intro h
    have h1 : a * a ≤ b * b := Nat.mul_self_le_mul_self h
    have h2 : ((a * a : Nat) : Int) ≤ ((b * b : Nat) : Int) := Int.ofNat_le.mpr h1
    rw [Int.natCast_mul, Int.natCast_mul] at h2
    exact h2
theorem c_whole_root (T : Txt K mg) : Cal P w K mg base "whole_root" 2 [] (spN (P2 fun u v H Po => ∃ r : Nat, u = .int ((r : Int) * (r : Int)) ∧ v = .int 2 ∧ r < 2 ^ 1000 ∧ Po = Is (.int (r : Nat)))) := by
  refine (def2 (N := ["number", "order", "low", "high", "middle"]) T.f_Fwhole_root "number" "order" fun cdv A outer s E H u v Po Q hr nd ⟨r, e1, e2, hi, hPo⟩ hQ => ?_).named T.g_whole_root
  subst hPo
  subst e1
  subst e2
  have small : ∀ h : Nat, h ≤ 2 * r + 1 → ((h : Int)).natAbs < 2 ^ 2000 := fun h hh => by
    rw [Int.natAbs_natCast]
    exact Nat.lt_of_le_of_lt hh (Nat.lt_of_lt_of_le (show 2 * r + 1 < 2 * 2 ^ 1000 by omega) (by decide))
  refine ss_tup (pa := none) (Pa := Is (.int 0)) (Pb := Is (.int 1)) 2 3 (ev_tup2 ev_int ev_int) fun x y H1 k1 e1 e2 => ?_
  subst e1
  subst e2
  refine ss_while (pa := none) (fun n σ H' => ∃ h : Nat, 1 ≤ h ∧ h ≤ 2 * r + 1 ∧ n = 2 * r + 1 - h ∧ Kp none H H' ∧ σ = [some (V.int ((r : Int) * (r : Int))), some (V.int 2), some (V.int 0), some (V.int (h : Nat)), none]) (2 * r) ⟨1, Nat.le_refl _, by omega, by omega, k1, rfl⟩ fun n σ' H2 ⟨h, h1, h2, hn, k2, hσ⟩ => ?_
  subst hσ
  refine ⟨_, et_le (k := decide (h ≤ r)) (ev_c2 (P := Is (.int ((h : Int) * (h : Int)))) (c_power_of T) hr (by decide) (ev_v 3) (ev_v 1) fun x y H3 k3 ex ey => ⟨_, ⟨(h : Nat), ex, ey, small h h2, rfl⟩, fun v H4 _ h => h⟩) (ev_v 0) (decide_eq_decide.mpr sq_le), fun H3 k3 e3 => ?_, fun H3 k3 e3 => ?_⟩
  · have hle : h ≤ r := of_decide_eq_true e3.symm
    refine ss_set (pa := none) 3 (ev_mul (cmulw (Nat.lt_trans (small h h2) (by decide)) (by decide)) (ev_v 3) ev_int) fun x H4 k4 e4 => ss_nil ?_
    subst e4
    refine ⟨2 * r + 1 - h * 2, by omega, h * 2, by omega, by omega, rfl, (k2.trans k3).trans k4, ?_⟩
    show [_, _, _, some (V.int ((h : Int) * 2)), _] = _
    rw [show ((h : Int) * 2) = ((h * 2 : Nat) : Int) by omega]
  · have hgt : r < h := by have := of_decide_eq_false e3.symm; omega
    refine ss_while (pa := none) (fun n σ H' => ∃ (l h : Nat) (o : Option V), l ≤ r ∧ r < h ∧ h ≤ 2 * r + 1 ∧ n = h - l ∧ Kp none H H' ∧ σ = [some (V.int ((r : Int) * (r : Int))), some (V.int 2), some (V.int (l : Nat)), some (V.int (h : Nat)), o]) h ⟨0, h, none, Nat.zero_le _, hgt, h2, by omega, k2.trans k3, rfl⟩ fun n σ' H4 ⟨l, h, o, hl, hh, hm, hn, k4, hσ⟩ => ?_
    subst hσ
    refine ⟨_, et_gt (k := decide (1 < h - l)) (ev_sub (ev_v 3) (ev_v 2)) ev_int (decide_eq_decide.mpr (by omega)), fun H5 k5 e5 => ?_, fun H5 k5 e5 => ?_⟩
    · have hlt : 1 < h - l := of_decide_eq_true e5.symm
      refine ss_set (pa := none) 4 (P := Is (.int ((l + h) / 2 : Nat))) ((ev_fdiv ⟨by decide, by decide⟩ (ev_add (ev_v 2) (ev_v 3)) ev_int).imp fun v H' _ e => ?_) fun x H6 k6 e6 => ?_
      · rw [show v = _ from e, Int.fdiv_eq_ediv_of_nonneg _ (by decide)]
        show V.int _ = V.int _
        congr 1
      · subst e6
        have hm1 : (l + h) / 2 ≤ 2 * r + 1 := by omega
        refine ss_ifb (pa := none) (k := decide ((l + h) / 2 ≤ r)) (et_le (ev_c2 (P := Is (.int ((((l + h) / 2 : Nat) : Int) * (((l + h) / 2 : Nat) : Int)))) (c_power_of T) hr (by decide) (ev_v 4) (ev_v 1) fun x y H3 k3 ex ey => ⟨_, ⟨((l + h) / 2 : Nat), ex, ey, small _ hm1, rfl⟩, fun v H4 _ h => h⟩) (ev_v 0) (decide_eq_decide.mpr sq_le)) (fun e7 H7 k7 => ?_) (fun e7 H7 k7 => ?_)
        · have e7 := of_decide_eq_true e7
          refine ss_set (pa := none) 2 (ev_v 4) fun x H8 k8 e8 => ss_nil (ss_nil ?_)
          subst e8
          exact ⟨h - (l + h) / 2, by omega, (l + h) / 2, h, _, e7, hh, hm, rfl, (((k4.trans k5).trans k6).trans k7).trans k8, rfl⟩
        · have e7 := of_decide_eq_false e7
          refine ss_set (pa := none) 3 (ev_v 4) fun x H8 k8 e8 => ss_nil (ss_nil ?_)
          subst e8
          exact ⟨(l + h) / 2 - l, by omega, l, (l + h) / 2, _, hl, by omega, by omega, rfl, (((k4.trans k5).trans k6).trans k7).trans k8, rfl⟩
    · have hle := of_decide_eq_false e5.symm
      have hr' : l = r := by omega
      subst hr'
      refine ss_ret (pa := none) (ev_if (k := true) (et_eqI (ev_c2 (P := Is (.int ((l : Int) * (l : Int)))) (c_power_of T) hr (by decide) (ev_v 2) (ev_v 1) fun x y H3 k3 ex ey => ⟨_, ⟨(l : Nat), ex, ey, small l (by omega), rfl⟩, fun v H4 _ h => h⟩) (ev_v 0) (decide_eq_true rfl)) (fun _ => ev_v 2) fun h => nomatch h) fun v' H' k h => hQ v' H' ((k4.trans k5).trans k) h
theorem c_order_root (T : Txt K mg) : Cal P w K mg base "order_root" 5 [] (spN (P2 fun u v H Po => ∃ r : Nat, IsR K ((((r : Int) * (r : Int) : Int)) : Rat) u H ∧ v = .int 2 ∧ r < 2 ^ 1000 ∧ Po = IsR K ((r : Int) : Rat))) := by
  refine (def2 (N := ["ratio", "order", "top", "bottom"]) T.f_Forder_root "ratio" "order" fun cdv A outer s E H u v Po Q hr nd ⟨r, hu, e2, hi, hPo⟩ hQ => ?_).named T.g_order_root
  subst hPo
  subst e2
  have hnn : (0 : Int) ≤ (r : Int) * (r : Int) := Int.mul_nonneg (by omega) (by omega)
  have hs : ¬ sgn ((((r : Int) * (r : Int) : Int)) : Rat) < 0 := by
    unfold sgn
    rw [Rat.num_intCast]
    have h2 : ¬ (r : Int) * (r : Int) < 0 := by omega
    rw [decide_eq_false h2]
    cases decide (0 < (r : Int) * (r : Int)) <;> decide
  refine ss_ifF (pa := none) (et_lt (ev_sign T hr (by decide) (ev_n 0 hu)) ev_int (decide_eq_false hs)) fun H1 k1 => ?_
  refine ss_par (pa := none) (Pa := Is (.int (r : Nat))) (Pb := Is (.int (1 : Nat))) 2 3 (eva2
    (ev_c2 (c_whole_root T) hr (by decide) (ev_top T (ev_n 0 (hu.kp k1))) (ev_v 1) fun x y H2 k2 ex ey => ⟨_, ⟨r, by rw [show x = _ from ex, Rat.num_intCast], ey, hi, rfl⟩, fun v H3 _ h => h⟩)
    (ev_c2 (c_whole_root T) hr (by decide) (ev_bot T (ev_n 0 (hu.kp k1))) (ev_v 1) fun x y H2 k2 ex ey => ⟨_, ⟨1, by rw [show x = _ from ex, Rat.den_intCast]; rfl, ey, by decide, rfl⟩, fun v H3 _ h => h⟩)) fun x y H2 k2 e1 e2 => ?_
  subst e1
  subst e2
  refine ss_ret (pa := none) (ev_if (k := false) (ew_or2 (k := false) (k' := false) (et_isN (ev_v 2) fun v H' _ e => by rw [show v = _ from e]; rfl) fun _ => ew_or1 (et_isN (ev_v 3) fun v H' _ e => by rw [show v = _ from e]; rfl)).et (fun h => nomatch h) fun _ => ev_rat2 T hr (i := (r : Nat)) (j := (1 : Nat)) (by decide) (by decide) (ev_v 2) (ev_v 3)) fun v' H' k h => hQ v' H' ((k1.trans k2).trans k) ?_
  rw [← rat_int]
  exact h
theorem c_square_root (T : Txt K mg) : Cal P w K mg base "square_root" 6 [] (spN (P1 fun u H Po => ∃ r : Nat, IsR K ((((r : Int) * (r : Int) : Int)) : Rat) u H ∧ r < 2 ^ 1000 ∧ Po = IsR K ((r : Int) : Rat))) := by
  refine (def1 (N := ["ratio"]) T.f_Fsquare_root "ratio" fun cdv A outer s E H u Po Q hr nd ⟨r, hu, hi, hPo⟩ hQ => ?_).named T.g_square_root
  subst hPo
  exact ss_ret (pa := none) (ev_c2 (c_order_root T) hr (by decide) (ev_n 0 hu) ev_int fun x y H1 k1 hx hy => ⟨_, ⟨r, hx, hy, hi, rfl⟩, fun v H2 _ h => h⟩) hQ
end
end RR
-- RX3
namespace RR
open PySem PySem.Spec PyProof.Rows L2
def szq (q : Rat) : Bool := decide (q.num.natAbs < 2 ^ 4000) && decide (q.den < 2 ^ 4000)
theorem szq_ok {q : Rat} (h : szq q = true) : Sz q := by
  obtain ⟨a, b⟩ := Bool.and_eq_true_iff.mp h
  exact ⟨of_decide_eq_true a, of_decide_eq_true b⟩
def totF (f : List Rat) (place : Nat) (t0 : Rat) : Nat → Option Rat
  | 0 => if szq t0 then some t0 else none
  | n + 1 => match totF f place t0 n with
    | none => none
    | some t => if szq (f.getD (n + 1) 0) && (szq (f.getD (place - (n + 1)) 0) && (szq (f.getD (n + 1) 0 * f.getD (place - (n + 1)) 0) && szq (t - f.getD (n + 1) 0 * f.getD (place - (n + 1)) 0))) then some (t - f.getD (n + 1) 0 * f.getD (place - (n + 1)) 0) else none
def numF (a : List Rat) (r : Rat) : Nat → Option (List Rat)
  | 0 => some [r]
  | n + 1 => match numF a r n with
    | none => none
    | some f => match totF f (n + 1) (a.getD (a.length - 1 - (n + 1)) 0) n with
      | none => none
      | some t => some (f ++ [t / (r * ((2 : Int) : Rat))])
theorem numF_len {a : List Rat} {r : Rat} : ∀ {n : Nat} {f : List Rat}, numF a r n = some f → f.length = n + 1
  | 0, f, h => by cases h; rfl
  | n + 1, f, h => by
    unfold numF at h
    cases e : numF a r n with
    | none => rw [e] at h; cases h
    | some g =>
      rw [e] at h
      simp only at h
      split at h
      · cases h
      · cases h
        rw [List.length_append, numF_len e]
        rfl
theorem numF_pre {a : List Rat} {r : Rat} : ∀ {m : Nat} {f : List Rat}, numF a r m = some f → ∀ n, n ≤ m → ∃ g, numF a r n = some g
  | m, f, h, n, hn => by
    by_cases e : n = m
    · subst e; exact ⟨f, h⟩
    · cases m with
      | zero => omega
      | succ m =>
        unfold numF at h
        cases e2 : numF a r m with
        | none => rw [e2] at h; cases h
        | some g => exact numF_pre e2 n (by omega)
theorem totF_pre {f : List Rat} {place : Nat} {t0 : Rat} : ∀ {m : Nat} {t : Rat}, totF f place t0 m = some t → ∀ n, n ≤ m → ∃ g, totF f place t0 n = some g
  | m, t, h, n, hn => by
    by_cases e : n = m
    · subst e; exact ⟨t, h⟩
    · cases m with
      | zero => omega
      | succ m =>
        unfold totF at h
        cases e2 : totF f place t0 m with
        | none => rw [e2] at h; cases h
        | some g => exact totF_pre e2 n (by omega)
theorem totF_sz {f : List Rat} {place : Nat} {t0 : Rat} : ∀ {m : Nat} {t : Rat}, totF f place t0 m = some t → Sz t
  | 0, t, h => by
    unfold totF at h
    split at h
    · rename_i hs
      cases h
      exact szq_ok hs
    · cases h
  | n + 1, t, h => by
    unfold totF at h
    cases e2 : totF f place t0 n with
    | none => rw [e2] at h; cases h
    | some g =>
      rw [e2] at h
      simp only at h
      split at h
      · rename_i hs
        cases h
        simp only [Bool.and_eq_true] at hs
        exact szq_ok hs.2.2.2
      · cases h
theorem app_getD {f : List Rat} {q : Rat} {i : Nat} (h : i < f.length) : (f ++ [q]).getD i 0 = f.getD i 0 := by
  rw [List.getD_eq_getElem?_getD, List.getElem?_append_left h, ← List.getD_eq_getElem?_getD]
theorem app_getD' {f : List Rat} {q : Rat} : (f ++ [q]).getD f.length 0 = q := by
  rw [List.getD_eq_getElem?_getD, List.getElem?_append_right (Nat.le_refl _)]
  simp
section
variable {K : PySem.W.Frag}
theorem rvs_fr {qs : List Rat} {xs zs ws : List V} {H : Hp} {p : Addr} (hp : H p = some (.lst zs)) (h : RVs K qs xs H) : RVs K qs xs (upd H p (.lst ws)) :=
  ⟨h.1, fun i y e => IsR.fr hp (fun b o hb n => by rw [upd_ne n]; exact hb) (h.2 i y e)⟩
theorem rvs_app {qs : List Rat} {q : Rat} {xs : List V} {v : V} {H : Hp} (h : RVs K qs xs H) (hv : IsR K q v H) : RVs K (qs ++ [q]) (xs ++ [v]) H := by
  refine ⟨by rw [List.length_append, List.length_append, h.1]; rfl, fun i y e => ?_⟩
  show IsR K ((qs ++ [q]).getD i 0) y H
  by_cases hi : i < xs.length
  · rw [List.getElem?_append_left hi] at e
    rw [app_getD (by rw [← h.1]; exact hi)]
    exact h.2 i y e
  · have e2 : i = xs.length := by
      have := (List.getElem?_eq_some_iff.mp e).1
      simp at this
      omega
    subst e2
    rw [List.getElem?_append_right (Nat.le_refl _)] at e
    simp at e
    subst e
    rw [show xs.length = qs.length from h.1, app_getD']
    exact hv
theorem rvs_one {q : Rat} {v : V} {H : Hp} (hv : IsR K q v H) : RVs K [q] [v] H := by
  refine ⟨rfl, fun i y e => ?_⟩
  cases i with
  | zero => simp at e; subst e; exact hv
  | succ i => simp at e
end
section
variable {P : Program} {w : World} {K : PySem.W.Frag} {mg : Str → Option Value} {base : Heap}
theorem c_numbers_of (T : Txt K mg) : Cal P w K mg base "numbers_of" 7 [] (spN (P2 fun u v H Po => ∃ (a : List Rat) (m r : Nat) (f : List Rat), RL K a u H ∧ SzL a ∧ v = .int ((m : Int) + 1) ∧ m + 1 ≤ a.length ∧ a.length ≤ 500 ∧ a.getD (a.length - 1) 0 = ((((r : Nat) : Int) * (r : Int) : Int) : Rat) ∧ 1 ≤ r ∧ r < 2 ^ 1000 ∧ numF a ((r : Int) : Rat) m = some f ∧ Po = NL H (RVs K f))) := by
  refine (def2 (N := ["poly", "many", "last", "first", "found", "double", "place", "total", "at"]) T.f_Fnumbers_of "poly" "many" fun cdv A outer s E H u v Po Q hr nd ⟨a, m, r, fin, hu, sa, ev, ma, la, hlast, r1, rb, hF, hPo⟩ hQ => ?_).named T.g_numbers_of
  subst hPo
  subst ev
  have szr : Sz ((r : Int) : Rat) := Sz.nat (Nat.lt_trans rb (by decide))
  have szd : Sz (((r : Int) : Rat) * ((2 : Int) : Rat)) := by
    rw [← Rat.intCast_mul, show ((r : Int) * 2) = ((r * 2 : Nat) : Int) by omega]
    refine Sz.nat (Nat.lt_of_lt_of_le (show r * 2 < 2 ^ 1000 * 2 by omega) (by decide))
  have hd0 : (((r : Int) : Rat) * ((2 : Int) : Rat)) ≠ 0 := by
    rw [← Rat.intCast_mul]
    intro z
    have := Rat.intCast_inj.mp (z.trans Rat.intCast_zero.symm)
    omega
  refine ss_par (pa := none) (Pa := Is (.int ((a.length : Int) - 1))) (Pb := IsR K ((r : Int) : Rat)) 2 3 (eva2 (ev_sub (ev_lenR T.n_len (ev_n 0 hu)) ev_int)
    (ev_c1 (c_square_root T) hr (by decide) (ev_ixR (ev_n 0 hu) (ev_neg ev_int) (a.length - 1) (ixN_last (by omega))) fun x H1 k1 hx => ⟨_, ⟨r, by rw [← hlast]; exact hx, rb, rfl⟩, fun v H2 _ h => h⟩)) fun x first H1 k1 e1 hfirst => ?_
  subst e1
  refine ss_par (pa := none) (Pa := NL H (RVs K [((r : Int) : Rat)])) (Pb := IsR K (((r : Int) : Rat) * ((2 : Int) : Rat))) 4 5 (eva2 ((ev_list (ea (ev_n (P := IsR K ((r : Int) : Rat)) 3 hfirst) ea0) fun vs H' _ ⟨_, _, e, _, e2⟩ => by rw [e, show _ = [] from e2]; exact small (by show 1 ≤ 100000; decide)).imp fun v' H' k ⟨p, xs, e, n, hp, y, r', e2, py, er⟩ => ⟨p, xs, e, k1.free n, hp, by rw [e2, show r' = [] from er]; exact rvs_one py⟩)
    (ev_rmul T hr (by decide) szr (Sz.int (by decide)) (ev_n (P := IsR K ((r : Int) : Rat)) 3 hfirst) (ev_numI ev_int))) fun x double H2 k2 hx hdouble => ?_
  obtain ⟨p, xs, rfl, hp0, hp2, rv⟩ := hx
  have k12 := k1.trans k2
  refine ss_forR2 (pa := none) (lo := 1) (hi := (m : Int) + 1) 6 (fun n σ H' => ∃ f xs o6 o7 o8, numF a ((r : Int) : Rat) n = some f ∧ Kp none H H' ∧ H' p = some (.lst xs) ∧ RVs K f xs H' ∧ IsR K (((r : Int) : Rat) * ((2 : Int) : Rat)) double H' ∧
    σ = [some u, some (V.int ((m : Int) + 1)), some (V.int ((a.length : Int) - 1)), some first, some (V.ref p), some double, o6, o7, o8]) T.n_range ev_int (ev_v 1) (by omega) (fun H' k => ⟨_, xs, _, _, _, rfl, k12.trans k, k.get0 hp2, StbA.st _ _ _ k rv, hdouble.kp k, rfl⟩) (fun n σ' H3 hn ⟨f, xs, o6, o7, o8, hf, k3, hp3, rv3, hd3, hσ⟩ => ?_) (fun σ' H3 ⟨f, xs, o6, o7, o8, hf, k3, hp3, rv3, hd3, hσ⟩ => ?_)
  · subst hσ
    have hn : n < m := by omega
    have ep : (1 : Int) + (n : Int) = ((n + 1 : Nat) : Int) := by omega
    rw [ep]
    have fl := numF_len hf
    obtain ⟨g, hg⟩ := numF_pre hF (n + 1) (by omega)
    have hg0 := hg
    unfold numF at hg
    rw [hf] at hg
    simp only at hg
    cases ht : totF f (n + 1) (a.getD (a.length - 1 - (n + 1)) 0) n with
    | none => rw [ht] at hg; cases hg
    | some t =>
      rw [ht] at hg
      have hg := Option.some.inj hg
      refine ss_set (pa := none) 7 (P := IsR K (a.getD (a.length - 1 - (n + 1)) 0)) (ev_if (k := true) (et_le (ev_v 6) (ev_v 2) (decide_eq_true (by omega))) (fun _ => ev_ixR (ev_n 0 (hu.kp k3)) (ev_sub (ev_v 2) (ev_v 6)) _ ?_) fun h => nomatch h) fun tot H4 k4 htot => ?_
      · rw [show ((a.length : Int) - 1 - ((n + 1 : Nat) : Int)) = ((a.length - 1 - (n + 1) : Nat) : Int) by omega]
        exact ixN_nat (by omega)
      refine ss_forR2 (pa := none) (lo := 1) (hi := ((n + 1 : Nat) : Int)) 8 (fun j σ H' => ∃ t' tv o8, totF f (n + 1) (a.getD (a.length - 1 - (n + 1)) 0) j = some t' ∧ Kp none H4 H' ∧ IsR K t' tv H' ∧
        σ = [some u, some (V.int ((m : Int) + 1)), some (V.int ((a.length : Int) - 1)), some first, some (V.ref p), some double, some (V.int ((n + 1 : Nat) : Int)), some tv, o8]) T.n_range ev_int (ev_v 6) (by omega) (fun H' k => ?_) (fun j σ' H5 hj ⟨t', tv, o8, ht', k5, htv, hσ⟩ => ?_) (fun σ' H5 ⟨t', tv, o8, ht', k5, htv, hσ⟩ => ?_)
      · obtain ⟨t0, ht0⟩ := totF_pre ht 0 (Nat.zero_le _)
        have e0 : t0 = a.getD (a.length - 1 - (n + 1)) 0 := by
          unfold totF at ht0
          split at ht0
          · exact (Option.some.inj ht0).symm
          · cases ht0
        subst e0
        exact ⟨_, tot, _, ht0, k, htot.kp k, rfl⟩
      · subst hσ
        have hj : j < n := by omega
        rw [show (1 : Int) + (j : Int) = ((j + 1 : Nat) : Int) by omega]
        have hr5 : RL K f (V.ref p) H5 := ⟨p, xs, rfl, (k4.trans k5).get0 hp3, StbA.st _ _ _ (k4.trans k5) rv3⟩
        obtain ⟨t2, ht2⟩ := totF_pre ht (j + 1) (by omega)
        have h2 := ht2
        unfold totF at h2
        rw [ht'] at h2
        simp only at h2
        split at h2
        · rename_i hs
          simp only [Bool.and_eq_true] at hs
          have h2 := Option.some.inj h2
          refine ss_set (pa := none) 7 (ev_rsub T hr (by decide) (totF_sz ht') (szq_ok hs.2.2.1) (ev_n (P := IsR K t') 7 htv) (ev_num (ev_rmul T hr (by decide) (szq_ok hs.1) (szq_ok hs.2.1) (ev_ixR (ev_n 4 hr5) (ev_v 8) (j + 1) (ixN_nat (by omega))) (ev_num (ev_ixR (ev_n 4 hr5) (ev_sub (ev_v 6) (ev_v 8)) (n + 1 - (j + 1)) ?_))))) fun tv' H6 k6 hv6 => ss_nil ?_
          · rw [show (((n + 1 : Nat) : Int) - ((j + 1 : Nat) : Int)) = ((n + 1 - (j + 1) : Nat) : Int) by omega]
            exact ixN_nat (by omega)
          · exact ⟨t2, tv', _, ht2, k5.trans k6, by rw [← h2]; exact hv6, rfl⟩
        · cases h2
      · subst hσ
        have et : t' = t := by
          have h3 : totF f (n + 1) (a.getD (a.length - 1 - (n + 1)) 0) n = some t' := by
            rw [show (((n + 1 : Nat) : Int) - 1).toNat = n by omega] at ht'
            exact ht'
          rw [ht] at h3
          exact (Option.some.inj h3).symm
        subst et
        have k45 := k4.trans k5
        refine ss_append (pa := none) (Pa := Is (.ref p)) (Pb := IsR K (t' / (((r : Int) : Rat) * ((2 : Int) : Rat)))) (ev_v 4) (ev_over T hr (by decide) (totF_sz ht) szd hd0 (ev_n (P := IsR K t') 7 htv) (ev_num (ev_n (P := IsR K (((r : Int) : Rat) * ((2 : Int) : Rat))) 5 (hd3.kp k45)))) (fun x y H6 k6 ex hy => ?_) (fun x H6 k6 ex => ⟨p, xs, ex, k6.get0 (k45.get0 hp3)⟩)
        have hp6 := k6.get0 (k45.get0 hp3)
        have rv6 := StbA.st (pa := none) _ _ _ (k45.trans k6) rv3
        refine ⟨p, xs, ex, hp6, ?_, ss_nil ⟨g, xs ++ [y], _, _, _, hg0, ((k3.trans k45).trans k6).mut hp0, upd_same, ?_, ?_, rfl⟩⟩
        · exact smallLt (by have := rv3.1; omega)
        · rw [← hg]
          exact rvs_fr hp6 (rvs_app rv6 hy)
        · exact IsR.fr hp6 (fun b o hb n => by rw [upd_ne n]; exact hb) (hd3.kp (k45.trans k6))
  · subst hσ
    have ef : f = fin := by
      rw [show ((m : Int) + 1 - 1).toNat = m by omega] at hf
      rw [hF] at hf
      exact (Option.some.inj hf).symm
    subst ef
    exact ss_ret (pa := none) (P := NL H (RVs K f)) ((ev_v 4).imp fun v' H' k e => ⟨p, xs, e, hp0, k.get0 hp3, StbA.st _ _ _ k rv3⟩) fun v' H' k h => hQ v' H' (k3.trans k) h
end
end RR
-- RX4
namespace RR
open PySem PySem.Spec PyProof.Rows L2
/-- what a root's polynomial must be -/
structure RootOk (a : List Rat) : Prop where
  tr : trim a = a
  ln : a.length = 3 ∨ a.length = 5 ∨ a.length = 7 ∨ a.length = 9
  sz : SzL a
  ssl : SzL (slopeP a)
  La : lcmQ a < 2 ^ 64
  Ls : lcmQ (slopeP a) < 2 ^ 64
  ba : BI (topsQ a)
  bs : BI (topsQ (slopeP a))
  cm : ∃ out, commF 60 (plainRow (topsQ a)) (plainRow (topsQ (slopeP a))) = some out ∧ out.length ≤ 1 ∧ lastI out ≠ 0 ∧ (lastI out).natAbs < 2 ^ 4000
  nu : ∃ (r : Nat) (f : List Rat), 1 ≤ r ∧ r < 2 ^ 1000 ∧ a.getD (a.length - 1) 0 = ((((r : Nat) : Int) * (r : Int) : Int) : Rat) ∧ numF a ((r : Int) : Rat) (a.length / 2) = some f ∧ SzL f.reverse ∧ lcmQ f.reverse < 2 ^ 64 ∧ BI (topsQ f.reverse) ∧ SzL (prodQ f.reverse f.reverse) ∧ SzL (byP (prodQ f.reverse f.reverse) ((-1 : Int) : Rat))
theorem RootOk.l1 {a : List Rat} (h : RootOk a) : 1 ≤ a.length ∧ a.length ≤ 9 := by
  rcases h.ln with e | e | e | e <;> omega
def rFields (w w1 w2 : V) : List (Str × V) := [("own_poly", w), ("own_nearest", w1), ("own_rest", w2)]
/-- the object of a root -/
def IsRoot (K : PySem.W.Frag) (a : List Rat) : V → Hp → Prop := fun v H => ∃ p dx w w1 w2, v = .ref p ∧ H p = some (.ins (cRoot K) dx (rFields w w1 w2)) ∧ RL K a w H
instance {K : PySem.W.Frag} {a : List Rat} {pa : Option Addr} : Stb pa (IsRoot K a) := ⟨fun v H1 H2 k ⟨p, dx, w, w1, w2, e, hp, h⟩ => ⟨p, dx, w, w1, w2, e, k.get hp (fun z => z), h.kp k⟩⟩
section
variable {P : Program} {w : World} {K : PySem.W.Frag} {mg : Str → Option Value} {base : Heap}
theorem c_right_poly (T : Txt K mg) : Cal P w K mg base "right_poly" 8 [] (spN (P1 fun u H Po => ∃ a, RL K a u H ∧ RootOk a ∧ Po = NL H (RVs K a))) := by
  refine (def1 (N := ["value", "found"]) T.f_Fright_poly "value" fun cdv A outer s E H u Po Q hr nd ⟨a, hu, ok, hPo⟩ hQ => ?_).named T.g_right_poly
  subst hPo
  obtain ⟨l1, l9⟩ := ok.l1
  obtain ⟨out, hc, ho1, hl0, hl1⟩ := ok.cm
  obtain ⟨r, f, r1, rb, hlast, _⟩ := ok.nu
  refine ss_set (pa := none) 1 (P := NL H (RVs K a)) (ev_c1 (c_want_poly T) hr (by decide) (ev_n 0 hu) fun x H1 k1 hx => ⟨_, ⟨a, hx.nlt, by omega, rfl⟩, fun v H2 _ h => by rw [ok.tr] at h; exact h.back k1⟩) fun x H1 k1 hx => ?_
  refine ss_ifF (pa := none) (et_cmp (Pa := Is (.int ((a.length : Int) - 1))) (Pb := Is (.ref (He.ga K "DEGREES"))) op_notIn_seq rfl (ev_sub (ev_lenR T.n_len (ev_n 1 hx.rl)) ev_int) (ev_own T.g_DEGREES) fun y z H2 Q' k2 ey ez q => ?_) fun H2 k2 => ?_
  · refine ⟨_, _, ez, .inr (He.tupB_ok T.tt_DEGREES H2), by rw [show y = _ from ey]; rfl, rfl, ?_⟩
    refine q _ H2 (Kp.refl _) ?_
    rw [show y = _ from ey]
    rcases ok.ln with e | e | e | e <;> (rw [e]; rfl)
  have hx2 : NL H (RVs K a) x H2 := Stb.st (pa := none) _ _ _ k2 hx
  refine ss_ifF (pa := none) (et_isN (Pa := IsR K ((r : Int) : Rat)) (ev_c1 (c_square_root T) hr (by decide) (ev_ixR (ev_n 1 hx2.rl) (ev_neg ev_int) (a.length - 1) (ixN_last (by omega))) fun x H3 k3 hx => ⟨_, ⟨r, by rw [← hlast]; exact hx, rb, rfl⟩, fun v H4 _ h => h⟩) fun v H' _ ⟨p, _, e, _⟩ => by rw [e]; rfl) fun H3 k3 => ?_
  have hx3 : NL H (RVs K a) x H3 := Stb.st (pa := none) _ _ _ k3 hx2
  refine ss_ifF (pa := none) (et_val (ev_c1 (c_is_squared T) hr (by decide) (ev_n 1 hx3.rl) fun x H4 k4 hx => ⟨_, ⟨a, out, hx, ok.sz, ok.ssl, ok.La, ok.Ls, ok.ba, ok.bs, l1, by omega, hc, ho1, hl0, hl1, rfl⟩, fun v H5 _ h => h⟩)) fun H4 k4 => ?_
  exact ss_ret (pa := none) (ev_n (P := NL H (RVs K a)) 1 (Stb.st (pa := none) _ _ _ k4 hx3)) fun v' H' k h => hQ v' H' ((((k1.trans k2).trans k3).trans k4).trans k) h
theorem rvs_rev {qs : List Rat} {xs : List V} {H : Hp} (h : RVs K qs xs H) : RVs K qs.reverse xs.reverse H := by
  refine ⟨by rw [List.length_reverse, List.length_reverse, h.1], fun i y e => ?_⟩
  have hl : xs.length = qs.length := h.1
  have hi : i < xs.length := by
    have := (List.getElem?_eq_some_iff.mp e).1
    simpa using this
  rw [List.getElem?_reverse hi] at e
  show IsR K (qs.reverse.getD i 0) y H
  rw [List.getD_eq_getElem?_getD, List.getElem?_reverse (by omega), ← List.getD_eq_getElem?_getD, ← hl]
  exact h.2 _ y e
/-- e[::-1] -/
theorem ev_revR {X : Cx} {pa : Option Addr} {σ : L2.St} {H : Hp} {e : Expr} {k : Nat} {p1 p2 p3 pos : Pos} {qs : List Rat} (he : Ev pa X e σ H (RL X.K qs)) :
    Ev pa X (.Subscript e (.Slice none none (some (.UnaryOp .USub (.Constant (.int 1) k p1) p2)) p3) pos) σ H (NL H (RVs X.K qs.reverse)) :=
  Ev.of (pe_revL he) fun H1 Q k q => ⟨rfl, k, fun v H2 k2 ⟨p, xs, e, hp, r⟩ => ⟨p, xs, e, SqL.of hp, fun z hz => q _ _ (k2.trans (Kp.new hz)) ⟨z, _, rfl, (k.trans k2).free hz, upd_same, StbA.st _ _ _ (Kp.new (pa := pa) hz) (rvs_rev r)⟩⟩⟩
def spRoot (K : PySem.W.Frag) : Sp := fun vs H Q _ => ∃ p dx a u, vs = [.ref p, u] ∧ H p = some (.ins (cRoot K) dx []) ∧ RL K a u H ∧ RootOk a ∧
  ∀ H' w w1 w2, (∀ c o, c ≠ p → H c = some o → H' c = some o) → H' p = some (.ins (cRoot K) dx (rFields w w1 w2)) → RL K a w H' → Q .non H'
theorem fn_rootInit (T : Txt K mg) : ∃ fd, FnOk P w K mg base CX0 9 (d_MRoot_init.adr K) fd ["self", "poly"] (spRoot K) ∧ Binds K fd ["self", "poly"] [] := by
  obtain ⟨fd, F⟩ := T.f_MRoot_init
  have F0 := F
  have e0 : d_MRoot_init.dvs = [] := rfl
  rw [e0] at F0
  refine ⟨fd, fn_def (N := ["self", "poly"]) F ⟨rfl, rfl, rfl, by decide +kernel, rfl, by decide +kernel, by decide +kernel⟩ (fun vs H Q E ⟨p, dx, a, u, e, _⟩ => by rw [e]; rfl) (fun cdv A outer s H vs Q E hr ⟨p, dx, a, u, e, hp, hu, ok, q⟩ => ?_), F0.bindsN fun _ _ _ _ _ _ us hl => match us, hl with | [_, _], _ => rfl⟩
  subst e
  have nd : (["self", "poly"] : List Str).Nodup := by decide +kernel
  obtain ⟨l1, l9⟩ := ok.l1
  obtain ⟨r, f, r1, rb, hlast, hF, sf, lf, bf, spq, sbq⟩ := ok.nu
  have fl := numF_len hF
  -- self.own_poly
  obtain ⟨pu, xs, eu, hpu, rvu⟩ := id hu
  refine ss_fld (pa := none) (P := NL H (RVs K a)) (Pa := Is (.ref p)) (ev_if (k := false) (et_val (ev_isi (P := RL K a) T.n_isinstance (ev_n 1 hu) (ev_own T.g_Known) (.own _) T.q_list_Known fun v H' _ ⟨pv, xs, e, hp, _⟩ => by rw [e]; exact .base (.lst hp))) (fun h => nomatch h) fun _ => ev_c1 (c_right_poly T) hr (by decide) (ev_n 1 hu) fun x H1 k1 hx => ⟨_, ⟨a, hx, ok, rfl⟩, fun v H2 _ h => h.back k1⟩) (ev_v 0) fun w x H1 k1 hw ex => ?_
  subst ex
  refine ⟨p, _, dx, [], rfl, k1.get0 hp, T.c_Root, T.a_Root_own_poly, by decide, ?_⟩
  obtain ⟨pw, xw, rfl, hw0, hw1, rvw⟩ := hw
  have npw : pw ≠ p := fun z => by rw [z, hp] at hw0; cases hw0
  have fr1 : ∀ {H' : Hp} {dx : Addr} {fs gs : List (Str × V)}, H' p = some (.ins (cRoot K) dx fs) → (∀ q, rF q ≠ fs) → ∀ {v : V} {bs : List Rat}, RL K bs v H' → RL K bs v (upd H' p (.ins (cRoot K) dx gs)) := fun {H' dx fs gs} h0 hne {v bs} ⟨z, ys, e, hz, r⟩ => by
    have nz : z ≠ p := fun y => by rw [y, h0] at hz; cases hz
    refine ⟨z, ys, e, by rw [upd_ne nz]; exact hz, r.1, fun i y ey => ?_⟩
    obtain ⟨b, db, eb, hb⟩ := r.2 i y ey
    refine ⟨b, db, eb, ?_⟩
    have hbp : b ≠ p := fun hbp => by
      rw [hbp, h0] at hb
      injection hb with hb
      injection hb with h1 h2 h3
      exact hne _ h3.symm
    rw [upd_ne hbp]
    exact hb
  have hpk1 := k1.get0 hp
  have hw2 : RL K a (.ref pw) (upd H1 p (.ins (cRoot K) dx (putF "own_poly" (.ref pw) []))) := fr1 hpk1 (fun q h => by cases h) ⟨pw, xw, rfl, hw1, rvw⟩
  -- self.own_nearest
  generalize hH2 : upd H1 p (.ins (cRoot K) dx (putF "own_poly" (.ref pw) [])) = H2 at hw2 ⊢
  have hp2 : H2 p = some (.ins (cRoot K) dx [("own_poly", .ref pw)]) := by rw [← hH2]; exact upd_same
  have hfld : ∀ {H' : Hp} {fs : List (Str × V)} {pos p2 : Pos}, H' p = some (.ins (cRoot K) dx fs) → fs.lookup ("own_poly" : Str) = some (V.ref pw) → RL K a (.ref pw) H' →
      Ev none (bodyX P w K mg base ["self", "poly"] d_MRoot_init cdv A outer s H E) (.Attribute (.Name "self" p2) "own_poly" pos) [some (V.ref p), some u] H' (RL K a) := fun hp' hl hw' => ev_fld (Pa := Is (.ref p)) (ev_v 0) (fun v H'' k e => ⟨p, _, dx, _, _, e, k.get0 hp', T.c_Root, T.a_Root_own_poly, hl, hw'.kp k⟩)
  refine ss_fld (pa := none) (P := NL H2 (RVs K f.reverse)) (Pa := Is (.ref p)) (ev_revR (ev_c2 (Pb := Is (.int ((a.length / 2 : Nat) + 1 : Int))) (c_numbers_of T) hr (by decide) (hfld hp2 rfl hw2) (ev_add ((ev_fdiv (i := (a.length : Nat)) ⟨by decide, by decide⟩ (ev_lenR T.n_len (hfld hp2 rfl hw2)) ev_int).imp fun v H' _ e => ?_) ev_int) fun x y H3 k3 hx ey => ⟨_, ⟨a, a.length / 2, r, f, hx, ok.sz, ey, by omega, by omega, hlast, r1, rb, hF, rfl⟩, fun v H4 _ h => h.rl⟩)) (ev_v 0) fun v3 x H3 k3 h3 ex => ?_
  · rw [show v = _ from e, Int.fdiv_eq_ediv_of_nonneg _ (by decide)]
    rfl
  subst ex
  have hpk3 := k3.get0 hp2
  have ne1 : ∀ q : Rat, rF q ≠ [(("own_poly" : Str), V.ref pw)] := fun q h => by
    injection h with h1 h2
    injection h1 with h3 h4
    exact absurd h3 (by decide)
  have hw4 : RL K a (.ref pw) (upd H3 p (.ins (cRoot K) dx (putF "own_nearest" v3 [("own_poly", .ref pw)]))) := fr1 hpk3 ne1 (hw2.kp k3)
  have hv4 : RL K f.reverse v3 (upd H3 p (.ins (cRoot K) dx (putF "own_nearest" v3 [("own_poly", .ref pw)]))) := fr1 hpk3 ne1 h3.rl
  refine ⟨p, _, dx, _, rfl, hpk3, T.c_Root, T.a_Root_own_nearest, by show 1 < 1000; decide, ?_⟩
  generalize hH4 : upd H3 p (.ins (cRoot K) dx (putF "own_nearest" v3 [("own_poly", .ref pw)])) = H4 at hw4 hv4 ⊢
  have hp4 : H4 p = some (.ins (cRoot K) dx [("own_poly", .ref pw), ("own_nearest", v3)]) := by rw [← hH4]; exact upd_same
  have hfr : f.reverse.length = a.length / 2 + 1 := by rw [List.length_reverse, fl]
  refine ss_fld (pa := none) (P := fun _ _ => True) (S1 := ⟨fun _ _ _ _ _ => trivial⟩) (Pa := Is (.ref p)) (ev_c2 (Pa := RL K a) (Pb := NL H4 (RVs K (prodQ f.reverse f.reverse))) (c_less_of T) hr (by decide) (hfld hp4 rfl hw4)
    (ev_c1 (Pa := RL K f.reverse) (c_square_of T) hr (by decide) (ev_fld (Pa := Is (.ref p)) (ev_v 0) fun v H'' k e => ⟨p, _, dx, _, _, e, k.get0 hp4, T.c_Root, T.a_Root_own_nearest, rfl, hv4.kp k⟩) fun x H5 k5 hx => ⟨_, ⟨_, hx, sf, lf, bf, by omega, by omega, rfl⟩, fun v H6 _ h => h.back k5⟩)
    fun x y H5 k5 hx hy => ⟨_, ⟨_, _, hx, hy.rl, ok.sz, spq, sbq, by omega, ?_, rfl⟩, fun _ _ _ _ => trivial⟩) (ev_v 0) fun v5 x H5 k5 _ ex => ?_
  · unfold prodQ prodI
    rw [List.length_map, prodN_len, topsQ_len]
    omega
  subst ex
  have hpk5 := k5.get0 hp4
  have ne2 : ∀ q : Rat, rF q ≠ [(("own_poly" : Str), V.ref pw), ("own_nearest", v3)] := fun q h => by
    injection h with h1 h2
    injection h1 with h3 h4
    exact absurd h3 (by decide)
  refine ⟨p, _, dx, _, rfl, hpk5, T.c_Root, T.a_Root_own_rest, by show 2 < 1000; decide, ss_nil ?_⟩
  refine q _ (.ref pw) v3 v5 (fun c o hc ho => ?_) upd_same (fr1 hpk5 ne2 (hw4.kp k5))
  rw [upd_ne hc]
  refine k5.get0 ?_
  rw [← hH4, upd_ne hc]
  refine k3.get0 ?_
  rw [← hH2, upd_ne hc]
  exact k1.get0 ho
end
section
variable {X : Cx} {pa : Option Addr} {σ : L2.St} {H : Hp} {a : Expr} {pos p : Pos} {Pa : V → Hp → Prop} {k : Nat} {qs : List Rat}
/-- Root(e) -/
theorem ev_root (T : Txt X.K X.mg) (hr : Room k X.A) (ok : RootOk qs) (ha : Ev pa X a σ H (RL X.K qs)) (hk : 10 ≤ k := by decide) (hg : Gl X "Root" := by rfl)
    (he : starEach [a] X.env = (false, eval a X.env) :: starEach [] X.env := by rfl) (hpl : (backTo pos (starEach [] X.env)).any (·.1) = false := by rfl) :
    Ev pa X (.Call (.Name "Root" p) [a] [] pos) σ H (IsRoot X.K qs) := by
  obtain ⟨fd, Fk, hB⟩ := fn_rootInit (P := X.prog) (w := X.w) (base := X.base) T
  refine Ev.of (pe_make (C := cRoot X.K) T.k_Root Fk (hr.mono hk) hg T.g_Root hB .nil pass0 (ea1 ha he) (by decide) he hpl) fun H1 Q k q => ⟨rfl, k, fun vs H2 k2 ⟨v, r, e, hv, er⟩ x dx hx hdx hne => ?_⟩
  obtain rfl : r = [] := er
  subst e
  have kk : ∀ c o, H2 c = some o → c ≠ x ∧ c ≠ dx := fun c o ho => ⟨fun z => (by rw [z, hx] at ho; cases ho), fun z => (by rw [z, hdx] at ho; cases ho)⟩
  have k3 : Kp pa H2 (upd (upd H2 dx (.own x)) x (.ins (cRoot X.K) dx [])) := Kp.ofE fun c o ho => by
    obtain ⟨n1, n2⟩ := kk c o ho
    rw [upd_ne n1, upd_ne n2]
    exact ho
  refine ⟨x, dx, qs, v, rfl, upd_same, hv.kp k3, ok, fun H' w w1 w2 f hp hw => ⟨rfl, q _ H' (k2.trans (Kp.ofE fun c o ho => ?_)) ⟨x, dx, w, w1, w2, rfl, hp, hw⟩⟩⟩
  obtain ⟨n1, n2⟩ := kk c o ho
  exact f c o n1 (by rw [upd_ne n1, upd_ne n2]; exact ho)
/-- root.own_poly -/
theorem ev_rpoly (T : Txt X.K X.mg) (ha : Ev pa X a σ H (IsRoot X.K qs)) (hb : attributeBase a "own_poly" X.env (eval a X.env) = eval a X.env := by rfl) : Ev pa X (.Attribute a "own_poly" pos) σ H (RL X.K qs) :=
  ev_fld ha (fun v H' _ ⟨p, dx, w, w1, w2, e, hp, h⟩ => ⟨p, _, dx, _, _, e, hp, T.c_Root, T.a_Root_own_poly, rfl, h⟩) hb
theorem tyRoot {K : PySem.W.Frag} {mg : Str → Option Value} (T : Txt K mg) {v : V} (h : IsRoot K qs v H) : TyX K H v (.ref (cRoot K)) := by
  obtain ⟨p, dx, _, _, _, rfl, hp, _⟩ := h
  exact .base (.ins hp T.c_Root T.t_cls_Root T.t_get T.t_tak T.t_mro_Root)
end
section
variable {P : Program} {w : World} {K : PySem.W.Frag} {mg : Str → Option Value} {base : Heap}
theorem a_phalf (T : Txt K mg) : CalA P w K mg base (d_PRoot_half.adr K) 1 (spN (P1 fun v H Po => ∃ a, IsRoot K a v H ∧ Po = Is (.int (a.length / 2 : Nat)))) := by
  refine def1 (N := ["self"]) T.f_PRoot_half "self" fun cdv A outer s E H v Po Q hr nd ⟨a, hv, hPo⟩ hQ => ?_
  subst hPo
  refine ss_ret (pa := none) ((ev_fdiv (i := (a.length : Nat)) ⟨by decide, by decide⟩ (ev_lenR T.n_len (ev_rpoly T (ev_n 0 hv))) ev_int).imp fun v H' _ e => ?_) hQ
  rw [show v = _ from e, Int.fdiv_eq_ediv_of_nonneg _ (by decide)]
  rfl
theorem c_want_root (T : Txt K mg) : Cal P w K mg base "want_root" 1 [] (spN (P1 fun v H Po => ∃ a, IsRoot K a v H ∧ Po = IsRoot K a)) := by
  refine (def1 (N := ["value"]) T.f_Fwant_root "value" fun cdv A outer s E H v Po Q hr nd ⟨a, hv, hPo⟩ hQ => ?_).named T.g_want_root
  subst hPo
  refine ss_ifF (pa := none) (et_not (k := true) (et_val (ev_isi T.n_isinstance (ev_n 0 hv) (ev_own T.g_Root) (.own _) T.q_Root_Root fun v H' _ e => tyRoot T e))) fun H1 k1 => ?_
  exact ss_ret (pa := none) (ev_n (P := IsRoot K a) 0 (Stb.st (pa := none) _ _ _ k1 hv)) fun v' H' k h => hQ v' H' (k1.trans k) h
end
section
variable {X : Cx} {pa : Option Addr} {σ : L2.St} {H : Hp} {a : Expr} {pos p : Pos} {k : Nat} {qs : List Rat}
theorem ev_half (T : Txt X.K X.mg) (hr : Room k X.A) (hk : 2 ≤ k) (ha : Ev pa X a σ H (IsRoot X.K qs)) (hab : attributeBase a "half" X.env (eval a X.env) = eval a X.env := by rfl) : Ev pa X (.Attribute a "half" pos) σ H (Is (.int (qs.length / 2 : Nat))) :=
  ev_prop T.c_Root T.p_Root_half (a_phalf T) hr hk ha (fun v H1 _ h => by
    obtain ⟨p, dx, w, w1, w2, e, hp, _⟩ := id h
    exact ⟨p, dx, _, _, e, hp, ⟨qs, h, rfl⟩, fun _ _ _ z => z⟩) hab
end
end RR
-- RY1
namespace RR
open PySem PySem.Spec PyProof.Rows L2
/-! ### what the taking off computes -/
def half2 (k : Nat) : Rat := Rat.divInt (k : Int) 2
def psl (D : List Rat) (p : Nat) : Nat → List Rat
  | 0 => List.replicate (p - 1) 0
  | n + 1 => if 0 < p + n then psl D p n ++ [D.getD n 0 * half2 (2 * p + n)] else psl D p n
def powerSum (D : List Rat) (p : Nat) : List Rat := psl D p D.length
def sumdF (D S : List Rat) : Nat → List Rat
  | 0 => []
  | m + 1 => if S.getD m 0 = 0 then sumdF D S m else sumP (sumdF D S m) ((powerSum D m).map fun x => S.getD m 0 * x)
def nD (D : List Rat) : Nat := D.length - 1
def leadQ (D : List Rat) : Rat := D.getD (D.length - 1) 0
def Lq (D : List Rat) (p : Nat) : Rat := leadQ D * (((D.length / 2 : Nat) + (p : Nat) : Int) : Rat)
def stepQ (D : List Rat) (m : Nat) (l : List Rat) : Rat := l.getD (l.length - 1) 0 / Lq D m
def stepL (D : List Rat) (m : Nat) (l : List Rat) : List Rat := trim (mk l.length fun i => l.getD i 0 - stepQ D m l * (powerSum D m).getD i 0)
def lawF (D : List Rat) : Nat → List Rat → List Rat → List Rat × List Rat
  | 0, f, l => (f, l)
  | m + 1, f, l => if l.length = nD D + m then lawF D m (f.set m (stepQ D m l)) (stepL D m l) else lawF D m f l
def cnt (D P : List Rat) : Nat := P.length + 1 - nD D
def takenF (D P : List Rat) : List Rat × List Rat := lawF D (cnt D P) (List.replicate (cnt D P) 0) P
theorem psl_len {D : List Rat} {p : Nat} : ∀ n, (psl D p n).length = if p = 0 then n - 1 else p - 1 + n
  | 0 => by
    unfold psl
    rw [List.length_replicate]
    split <;> omega
  | n + 1 => by
    unfold psl
    have := psl_len (D := D) (p := p) n
    split
    · rw [List.length_append, this]
      show _ + 1 = _
      split <;> omega
    · rw [this]
      split <;> omega
theorem psl_le {D : List Rat} {p n : Nat} : (psl D p n).length ≤ p + n := by
  rw [psl_len]
  split <;> omega
theorem powerSum_len {D : List Rat} {p : Nat} (h : 1 ≤ D.length) : (powerSum D p).length = p + nD D := by
  unfold powerSum nD
  rw [psl_len]
  split <;> omega
theorem lawF_skip {D f l : List Rat} : ∀ {m k : Nat}, l.length < nD D + k → k ≤ m → lawF D m f l = lawF D k f l
  | 0, k, h, hk => by
    have : k = 0 := by omega
    rw [this]
  | m + 1, k, h, hk => by
    by_cases e : k = m + 1
    · rw [e]
    · show (if l.length = nD D + m then _ else lawF D m f l) = _
      rw [if_neg (by omega)]
      exact lawF_skip h (by omega)
section
variable {K : PySem.W.Frag}
theorem rvs_rep {q : Rat} {v : V} {H : Hp} (hv : IsR K q v H) (n : Nat) : RVs K (List.replicate n q) (List.replicate n v) H := by
  refine ⟨by rw [List.length_replicate, List.length_replicate], fun i y e => ?_⟩
  have hi : i < n := by
    have := (List.getElem?_eq_some_iff.mp e).1
    rwa [List.length_replicate] at this
  rw [List.getElem?_replicate, if_pos hi] at e
  have e := Option.some.inj e
  subst e
  show IsR K ((List.replicate n q).getD i 0) v H
  rw [List.getD_eq_getElem?_getD, List.getElem?_replicate, if_pos hi]
  exact hv
theorem flat_one {n : Nat} {v : V} : (List.replicate n [v]).flatten = List.replicate n v := by
  induction n with
  | zero => rfl
  | succ n ih => rw [List.replicate_succ, List.flatten_cons, ih]; rfl
theorem rvs_set {qs : List Rat} {q : Rat} {xs : List V} {v : V} {H : Hp} {n : Nat} (h : RVs K qs xs H) (hv : IsR K q v H) : RVs K (qs.set n q) (xs.set n v) H := by
  refine ⟨by rw [List.length_set, List.length_set, h.1], fun i y e => ?_⟩
  show IsR K ((qs.set n q).getD i 0) y H
  have hl : xs.length = qs.length := h.1
  rw [List.getElem?_set] at e
  by_cases hn : n = i
  · subst hn
    rw [if_pos rfl] at e
    split at e
    · rename_i hx
      have e := Option.some.inj e
      subst e
      rw [List.getD_eq_getElem?_getD, List.getElem?_set_self (by omega)]
      exact hv
    · cases e
  · rw [if_neg hn] at e
    rw [List.getD_eq_getElem?_getD, List.getElem?_set_ne hn, ← List.getD_eq_getElem?_getD]
    exact h.2 i y e
end
theorem map_getQ {f : Rat → Rat} {qs : List Rat} {i : Nat} (h : i < qs.length) : (qs.map f).getD i 0 = f (qs.getD i 0) := by
  rw [List.getD_eq_getElem?_getD, List.getElem?_map, List.getElem?_eq_getElem h, List.getD_eq_getElem?_getD, List.getElem?_eq_getElem h]
  rfl
theorem each_mapQ {K : PySem.W.Frag} {f : Rat → Rat} {qs : List Rat} {xs : List V} {H : Hp} (h : Each qs.length (fun i => IsR K (f (qs.getD i 0))) xs H) : RVs K (qs.map f) xs H := by
  refine ⟨by rw [h.1, List.length_map], fun i y e => ?_⟩
  have hi : i < qs.length := by rw [← h.1]; exact (List.getElem?_eq_some_iff.mp e).1
  show IsR K ((qs.map f).getD i 0) y H
  rw [map_getQ hi]
  exact h.2 i y e
section
variable {X : Cx} {pa : Option Addr} {σ : L2.St} {H : Hp} {a b : Expr} {pos p : Pos} {q : Rat} {k : Nat} {i : Int} {qs : List Rat}
/-- [Ratio(0)] * n -/
theorem ev_zeros {pos2 pos3 p2 pc : Pos} {j} (T : Txt X.K X.mg) (hr : Room k X.A) (hk : 4 ≤ k) (hb : Ev pa X b σ H (Is (.int i))) (hi : i ≤ 1000) (h0 : -1000 ≤ i) (hg : Gl X "Ratio" := by rfl)
    (he : starEach [Expr.Constant (.int 0) j pc] X.env = (false, eval (.Constant (.int 0) j pc) X.env) :: starEach [] X.env := by rfl) (hpl : (backTo pos3 (starEach [] X.env)).any (·.1) = false := by rfl)
    (hs : starEach [Expr.Call (.Name "Ratio" p2) [.Constant (.int 0) j pc] [] pos3] X.env = (false, eval (.Call (.Name "Ratio" p2) [.Constant (.int 0) j pc] [] pos3) X.env) :: starEach [] X.env := by rfl) :
    Ev pa X (.BinOp (.List [.Call (.Name "Ratio" p2) [.Constant (.int 0) j pc] [] pos3] pos2) .Mult b pos) σ H (NL H (RVs X.K (List.replicate i.toNat 0))) := by
  have h1 : Ev pa X (.List [.Call (.Name "Ratio" p2) [.Constant (.int 0) j pc] [] pos3] pos2) σ H (NL H (RVs X.K [0])) := (ev_list (ea (ev_rat1 T hr ev_int hk hg he hpl) ea0 hs) fun vs H' _ ⟨_, _, e, _, e2⟩ => by rw [e, show _ = [] from e2]; exact small (by show 1 ≤ 100000; decide)).imp
    fun v' H' k ⟨p, xs, e, n, hp, y, r', e2, py, er⟩ => ⟨p, xs, e, n, hp, by rw [e2, show r' = [] from er]; exact rvs_one (by rw [← Rat.intCast_zero]; exact py)⟩
  refine ev_rep h1 hb (by omega) fun v H' k ⟨p, xs, e, n, hp, rv⟩ => ⟨p, xs, e, hp, ?_, fun z hz => ⟨z, _, rfl, k.free hz, upd_same, ?_⟩⟩
  · rw [show xs.length = 1 from rv.1]
    exact small (by omega)
  · obtain ⟨y, rfl⟩ : ∃ y, xs = [y] := List.length_eq_one_iff.mp rv.1
    rw [flat_one]
    exact StbA.st (pa := pa) _ _ _ (Kp.new hz) (rvs_rep (rv.2 0 y rfl) _)
/-- Ratio(e, 2) with e a count -/
theorem ev_half2 {n : Nat} {j} {p2 pc : Pos} (T : Txt X.K X.mg) (hr : Room k X.A) (hk : 4 ≤ k) (ha : Ev pa X a σ H (Is (.int (n : Nat)))) (hg : Gl X "Ratio" := by rfl)
    (he : starEach [a, Expr.Constant (.int 2) j pc] X.env = (false, eval a X.env) :: starEach [.Constant (.int 2) j pc] X.env := by rfl) (he2 : starEach [Expr.Constant (.int 2) j pc] X.env = (false, eval (.Constant (.int 2) j pc) X.env) :: starEach [] X.env := by rfl) (hpl : (backTo pos (starEach [Expr.Constant (.int 2) j pc] X.env)).any (·.1) = false := by rfl) :
    Ev pa X (.Call (.Name "Ratio" p2) [a, .Constant (.int 2) j pc] [] pos) σ H (IsR X.K (half2 n)) := ev_rat2 T hr (by decide) (by decide) ha ev_int hk hg he he2 hpl
end
theorem half2_sz {n : Nat} (h : n < 2 ^ 100) : Sz (half2 n) := Fit.sz (M := 2) (k := 100) ⟨(n : Int), rfl, by rw [Int.natAbs_natCast]; exact h⟩ (by decide) (by decide) (by decide)
section
variable {P : Program} {w : World} {K : PySem.W.Frag} {mg : Str → Option Value} {base : Heap}
theorem c_want_short (T : Txt K mg) : Cal P w K mg base "want_short" 7 [] (spN (P1 fun v H Po => ∃ qs, NLT K qs v H ∧ qs.length ≤ 31 ∧ Po = NL H (RVs K (trim qs)))) := by
  refine (def1 (N := ["value", "told"]) T.f_Fwant_short "value" fun cdv A outer s E H v Po Q hr nd ⟨qs, hv, hl, hPo⟩ hQ => ?_).named T.g_want_short
  subst hPo
  obtain ⟨tk, i30⟩ := T.i_MOST_DEGREE
  refine ss_set (pa := none) 1 (P := NL H (RVs K (trim qs))) (ev_c1 (c_want_poly T) hr (by decide) (ev_n 0 hv) fun x H1 k1 hx => ⟨_, ⟨qs, hx, by omega, rfl⟩, fun v H2 _ h => h.back k1⟩) fun x H1 k1 hx => ?_
  refine ss_expr (pa := none) (P := fun _ _ => True) (ev_c3 (Pa := fun _ _ => True) (A := ⟨fun _ _ _ _ _ => trivial⟩) (Pc := Is (.int (((trim qs).length : Int) - 1))) (c_want_at_most T) hr (by decide) (ev_str.imp fun _ _ _ _ => trivial) (ev_glob (v := .int 30) i30 ⟨_, rfl⟩) (ev_sub (ev_lenR T.n_len (ev_n 1 hx.rl)) ev_int)
    fun x y z H2 k2 _ ey ez => ⟨_, ⟨30, _, ey, ez, by have := trim_le qs; omega, rfl⟩, fun _ _ _ _ => trivial⟩) fun y H2 k2 _ => ?_
  exact ss_ret (pa := none) (ev_n (P := NL H (RVs K (trim qs))) 1 (Stb.st (pa := none) _ _ _ k2 hx)) fun v' H' k h => hQ v' H' ((k1.trans k2).trans k) h
theorem c_power_sum (T : Txt K mg) : Cal P w K mg base "power_sum" 6 [] (spN (P2 fun u v H Po => ∃ (D : List Rat) (p : Nat), IsRoot K D u H ∧ v = .int (p : Nat) ∧ SzL D ∧ D.length ≤ 100 ∧ p ≤ 100 ∧ Po = NL H (RVs K (powerSum D p)))) := by
  refine (def2 (N := ["root", "place", "found", "at", "number"]) T.f_Fpower_sum "root" "place" fun cdv A outer s E H u v Po Q hr nd ⟨D, p, hu, ev, sD, lD, lp, hPo⟩ hQ => ?_).named T.g_power_sum
  subst hPo
  subst ev
  have e1 : (max (0 : Int) ((p : Int) - 1)).toNat = p - 1 := by omega
  refine ss_set (pa := none) 2 (ev_zeros T hr (by decide) (ev_max T.n_max ev_int (ev_sub (ev_v 1) ev_int)) (by omega) (by omega)) fun x H1 k1 hx => ?_
  rw [e1] at hx
  obtain ⟨pf, xs, rfl, hp0, hp1, rv1⟩ := hx
  obtain ⟨pr, dx, w0, w1, w2, rfl, hpr, hw⟩ := hu
  obtain ⟨pw, ws, rfl, hpw, rvw⟩ := hw
  have hroot : IsRoot K D (.ref pr) H := ⟨pr, dx, _, w1, w2, rfl, hpr, pw, ws, rfl, hpw, rvw⟩
  refine ss_forE (pa := none) (P := Is (.ref pw)) 3 4 ws (fun q n σ H' => q = pw ∧ Kp none H H' ∧ (∃ xs, H' pf = some (.lst xs) ∧ RVs K (psl D p n) xs H') ∧ ∃ o1 o2, σ = [some (V.ref pr), some (V.int (p : Nat)), some (V.ref pf), o1, o2]) T.n_enumerate
    (ev_fld (Pa := Is (.ref pr)) (ev_v 0) fun v H' k e => ⟨pr, _, dx, _, _, e, (k1.trans k).get0 hpr, T.c_Root, T.a_Root_own_poly, rfl, rfl⟩)
    (fun z H' k e => ⟨pw, e, rfl, k1.trans k, ⟨xs, k.get0 hp1, StbA.st _ _ _ k rv1⟩, _, _, rfl⟩) (fun q n σ' H' _ ⟨e, k, _⟩ => by subst e; exact SqL.of (k.get0 hpw)) (fun q n y σ' H2 H3 hy ⟨e, k2, ⟨xs, hp2, rv2⟩, o1, o2, hσ⟩ k3 => ?_) (fun q σ' H2 ⟨e, k2, ⟨xs, hp2, rv2⟩, o1, o2, hσ⟩ => ?_)
  · subst hσ
    have hn : n < D.length := by rw [← rvw.1]; exact (List.getElem?_eq_some_iff.mp hy).1
    have k23 := k2.trans k3
    refine ss_ifb (pa := none) (k := decide (0 < p + n)) (et_gt (ev_add (ev_v 1) (ev_v 3)) ev_int (decide_eq_decide.mpr (by omega))) (fun h0 H4 k4 => ?_) (fun h0 H4 k4 => ?_)
    · have h0 := of_decide_eq_true h0
      have hy4 : IsR K (D.getD n 0) y H4 := Stb.st (pa := none) _ _ _ (k23.trans k4) (rvw.2 n y hy)
      refine ss_append (pa := none) (Pa := Is (.ref pf)) (Pb := IsR K (D.getD n 0 * half2 (2 * p + n))) (ev_v 2) (ev_rmul T hr (by decide) (sD n) (half2_sz (Nat.lt_trans (show 2 * p + n < 1000 by omega) (by decide))) (ev_n (P := IsR K (D.getD n 0)) 4 hy4) (ev_num (ev_half2 (n := 2 * p + n) T hr (by decide) ?_))) (fun x z H5 k5 ex hz => ?_) (fun x H5 k5 ex => ⟨pf, xs, ex, (k3.trans (k4.trans k5)).get0 hp2⟩)
      · rw [show ((2 * p + n : Nat) : Int) = 2 * (p : Int) + (n : Int) by omega]
        exact ev_add (ev_mul (cmulw (by decide) (by rw [Int.natAbs_natCast]; exact Nat.lt_trans (show p < 1000 by omega) (by decide))) ev_int (ev_v 1)) (ev_v 3)
      · have hp5 := (k3.trans (k4.trans k5)).get0 hp2
        have rv5 := StbA.st (pa := none) _ _ _ (k3.trans (k4.trans k5)) rv2
        refine ⟨pf, xs, ex, hp5, smallLt ?_, ss_nil (ss_nil ⟨e, ((k23.trans k4).trans k5).mut hp0, ⟨xs ++ [z], upd_same, ?_⟩, _, _, rfl⟩)⟩
        · have h1 : xs.length = (psl D p n).length := rv2.1
          have := psl_le (D := D) (p := p) (n := n)
          omega
        · show RVs K (if 0 < p + n then _ else _) _ _
          rw [if_pos h0]
          exact rvs_fr hp5 (rvs_app rv5 hz)
    · have h0 := of_decide_eq_false h0
      refine ss_nil (ss_nil ⟨e, k23.trans k4, ⟨xs, (k3.trans k4).get0 hp2, ?_⟩, _, _, rfl⟩)
      show RVs K (if 0 < p + n then _ else _) _ _
      rw [if_neg h0]
      exact StbA.st (pa := none) _ _ _ (k3.trans k4) rv2
  · subst hσ
    rw [show ws.length = D.length from rvw.1] at rv2
    exact ss_ret (pa := none) (P := NL H (RVs K (powerSum D p))) ((ev_v 2).imp fun v' H' k e => ⟨pf, xs, e, hp0, k.get0 hp2, StbA.st _ _ _ k rv2⟩) fun v' H' k h => hQ v' H' (k2.trans k) h
end
end RR
-- RY2
namespace RR
open PySem PySem.Spec PyProof.Rows L2
section
variable {X : Cx} {pa : Option Addr} {σ : L2.St} {H H' : Hp} {elt iter a b : Expr} {pos : Pos} {P Pa : V → Hp → Prop} {qs rs : List Rat}
/-- [elt for x in a row that is made on the way] -/
theorem ev_lcQ (i : Nat) {x : Str} {px : Pos} {scope : Scope} (R : Nat → V → Hp → Prop) [S : ∀ i, Stb pa (R i)] [L : ∀ i, StbL (R i)] (hi : Ev pa X iter σ H (RL X.K qs)) (hp : PotOk pa H) (hlen : qs.length ≤ 100000)
    (he : ∀ n w H', n < qs.length → IsR X.K (qs.getD n 0) w H' → Kp pa H H' → InBlk pa X scope elt ((σ.set i none).set i (some w)) H' (R n))
    (hx : X.N[i]? = some x := by rfl) (hN : X.N.Nodup := by assumption) (hc : X.calm = true := by rfl)
    (ok : BlkOk X.N X.env.scope scope [(x, i)] := by exact blkOk_by (by kernel_rfl))
    (hg : ∀ (s : Shared) (H : Hp) (C : Addr) (cl : List (Str × Addr)) (fp : List Addr), PG (X.blk s H scope (compEnvC scope cl C X.env) fp) (.Name x px) (gName i) := by intro _ _ _ _ _; exact pg_name (by assumption) rfl (Or.inl rfl))
    (hs : ∀ x, foldedSetIterable iter X.env x = pure x := by intro _; rfl) :
    Ev pa X (.ListComp elt [⟨.Name x px, iter, [], 0⟩] scope pos) σ H (NL H (Each qs.length R)) := by
  refine Ev.of (pe_lc (own := [(x, i)]) (g := gName i) (tt := tYes) (te := tBlk pa X scope elt) hc hN (pi_list hi) ok hg (fun _ _ _ _ _ => pts_nil) (fun s H0 C cl fp => tBlk_ok s H0 C cl fp) hs) fun H1 Q k q => ⟨rfl, k, fun v H2 k2 ⟨a, xs, e, ha, rv⟩ => ?_⟩
  refine ⟨a, e, ⟨xs, SqL.of ha⟩, fun D hD => ?_⟩
  have hp2 : PotOk pa H2 := hp.at (k.trans k2)
  have hl : xs.length = qs.length := rv.1
  refine lc_list (K := X.K) (a := a) (xs := xs) (g := gName i) (tt := tYes) (te := tBlk pa X scope elt) (vs := [i]) (LcInv pa H2 D R) (LcInv.start hD) (fun n H' _ w => SqL.of (w.kp.get ha rv.notPot)) (fun n y H' hy w => ?_) (fun H' w => q _ _ (k2.trans w.kp) (by rw [← hl]; exact w.done ((k.trans k2).free hD)))
  have hn : n < xs.length := (List.getElem?_eq_some_iff.mp hy).1
  refine And.intro (by show (((σ.set i none).set i (some y)).set i none) = σ.set i none; simp) ?_
  refine ⟨R n, he n y H' (by omega) ((rv.2 n y hy).kp w.kp) (((k.trans k2)).trans w.kp), fun z H4 k4 hz => ?_⟩
  exact w.step hD hp2 k4 hz (by omega)
/-- [elt for x, y in zip(a, b)], two rows of one length -/
theorem ev_lcZQ (i j : Nat) {x y : Str} {px py pt pz pc : Pos} {kt} {scope : Scope} (R : Nat → V → Hp → Prop) [S : ∀ i, Stb pa (R i)] [L : ∀ i, StbL (R i)] (hz : X.mg "zip" = none) (ha : Ev pa X a σ H (RL X.K qs)) (hb : Ev pa X b σ H (RL X.K rs)) (hp : PotOk pa H) (hlen : qs.length ≤ 100000) (hl : qs.length = rs.length)
    (he : ∀ n u w H', n < qs.length → IsR X.K (qs.getD n 0) u H' → IsR X.K (rs.getD n 0) w H' → Kp pa H H' → InBlk pa X scope elt ((((σ.set j none).set i none).set i (some u)).set j (some w)) H' (R n))
    (hx : X.N[i]? = some x := by rfl) (hy : X.N[j]? = some y := by rfl) (hij : i ≠ j := by decide) (hN : X.N.Nodup := by assumption) (hc : X.calm = true := by rfl)
    (ok : BlkOk X.N X.env.scope scope [(x, i), (y, j)] := by exact blkOk_by (by kernel_rfl))
    (hg : ∀ (s : Shared) (H : Hp) (C : Addr) (cl : List (Str × Addr)) (fp : List Addr), PG (X.blk s H scope (compEnvC scope cl C X.env) fp) (.Tuple [.Name x px, .Name y py] kt pt) (gTup X.K 2 (gCons (gName i) (gCons (gName j) gNil))) := by intro _ _ _ _ _; exact pg_tup rfl (pgs_cons (pg_name (by assumption) rfl (Or.inl rfl)) (pgs_cons (pg_name (by assumption) rfl (Or.inl rfl)) pgs_nil)))
    (hgr : Gl X "zip" := by rfl) (hsa : starEach [a, b] X.env = (false, eval a X.env) :: starEach [b] X.env := by rfl) (hsb : starEach [b] X.env = (false, eval b X.env) :: starEach [] X.env := by rfl) (hpl : (backTo pc (starEach [b] X.env)).any (·.1) = false := by rfl)
    (hs : ∀ x, foldedSetIterable (.Call (.Name "zip" pz) [a, b] [] pc) X.env x = pure x := by intro _; rfl) :
    Ev pa X (.ListComp elt [⟨.Tuple [.Name x px, .Name y py] kt pt, .Call (.Name "zip" pz) [a, b] [] pc, [], 0⟩] scope pos) σ H (NL H (Each qs.length R)) := by
  refine Ev.of (pe_lc (own := [(x, i), (y, j)]) (g := gTup X.K 2 (gCons (gName i) (gCons (gName j) gNil))) (tt := tYes) (te := tBlk pa X scope elt) hc hN (pi_zip hgr hz (eva2 ha hb hsa hsb) hsa hpl) ok hg (fun _ _ _ _ _ => pts_nil) (fun s H0 C cl fp => tBlk_ok s H0 C cl fp) hs) fun H1 Q k q => ⟨rfl, k, fun vs H2 k2 ⟨v, w, e, ⟨av, xs, e1, hav, rv⟩, ⟨bv, ys, e2, hbv, rw_⟩⟩ => ?_⟩
  refine ⟨av, bv, xs, ys, by rw [e, e1, e2], SqL.of hav, SqL.of hbv, fun D hD => ?_⟩
  have hp2 : PotOk pa H2 := hp.at (k.trans k2)
  have hl1 : xs.length = qs.length := rv.1
  have hl2 : ys.length = rs.length := rw_.1
  refine lc_zip (K := X.K) (a := av) (b := bv) (xs := xs) (ys := ys) (g := gTup X.K 2 (gCons (gName i) (gCons (gName j) gNil))) (tt := tYes) (te := tBlk pa X scope elt) (vs := [i, j]) (by omega) (LcInv pa H2 D R) (LcInv.start hD) (fun n H' _ w => ⟨SqL.of (w.kp.get hav rv.notPot), SqL.of (w.kp.get hbv rw_.notPot)⟩) (fun n u w T H' hu hw wi hT => ?_) (fun H' w => q _ _ (k2.trans w.kp) (by rw [← hl1]; exact w.done ((k.trans k2).free hD)))
  have hn : n < xs.length := (List.getElem?_eq_some_iff.mp hu).1
  have hTD : T ≠ D := fun z => by
    obtain ⟨acc, h1, _⟩ := wi.at_
    rw [z, h1] at hT
    cases hT
  have wi' : LcInv pa H2 D R n (upd H' T (.tup [u, w])) := by
    obtain ⟨acc, h1, l1, r1⟩ := wi.at_
    exact ⟨wi.kp.trans (Kp.new hT), acc, by rw [upd_ne hTD.symm]; exact h1, l1, fun j y e => (S j).st _ _ _ (Kp.new hT) (r1 j y e)⟩
  refine ⟨T, [u, w], rfl, SqT.of upd_same, rfl, u, [w], rfl, w, [], rfl, rfl, ?_⟩
  refine And.intro ?_ ?_
  · show ((((((σ.set j none).set i none).set i (some u)).set j (some w)).set j none).set i none) = (σ.set j none).set i none
    simp [List.set_comm _ _ hij]
  refine ⟨R n, he n u w (upd H' T (.tup [u, w])) (by omega) ((rv.2 n u hu).kp wi'.kp) ((rw_.2 n w hw).kp wi'.kp) (((k.trans k2)).trans wi'.kp), fun z' H4 k4 hz' => ?_⟩
  exact wi'.step hD hp2 k4 hz' (by omega)
end
/-- the sizes that adding up needs -/
structure SumOk (D S : List Rat) : Prop where
  d : SzL D
  ld : D.length ≤ 50
  ld1 : 1 ≤ D.length
  s : SzL S
  ls : S.length ≤ 50
  ps : ∀ m, m < S.length → SzL (powerSum D m)
  tm : ∀ m, m < S.length → SzL ((powerSum D m).map fun x => S.getD m 0 * x)
  sm : ∀ m, m ≤ S.length → SzL (sumdF D S m) ∧ (sumdF D S m).length ≤ 200
section
variable {P : Program} {w : World} {K : PySem.W.Frag} {mg : Str → Option Value} {base : Heap}
theorem c_summed (T : Txt K mg) : Cal P w K mg base "summed" 7 [] (spN (P2 fun u v H Po => ∃ D S, IsRoot K D u H ∧ RL K S v H ∧ SumOk D S ∧ Po = NL H (RVs K (sumdF D S S.length)))) := by
  refine (def2 (N := ["root", "first", "found", "place", "number", "other"]) T.f_Fsummed "root" "first" fun cdv A outer s E H u v Po Q hr nd ⟨D, S, hu, hv, ok, hPo⟩ hQ => ?_).named T.g_summed
  subst hPo
  obtain ⟨pv, vs, rfl, hv0, rv⟩ := id hv
  refine ss_set (pa := none) 2 (P := NL H (RVs K [])) (ev_nil.imp fun v' H' k ⟨p, xs, e, n, hp, ex⟩ => ⟨p, xs, e, n, hp, by rw [ex]; exact ⟨rfl, fun i y e => by simp at e⟩⟩) fun x H1 k1 hx => ?_
  refine ss_forE (pa := none) (P := Is (.ref pv)) 3 4 vs (fun q n σ H' => q = pv ∧ Kp none H H' ∧ ∃ x o1 o2 o3, NL H (RVs K (sumdF D S n)) x H' ∧ σ = [some u, some (V.ref pv), some x, o1, o2, o3]) T.n_enumerate (ev_v 1)
    (fun z H' k e => ⟨pv, e, rfl, k1.trans k, x, _, _, _, Stb.st (pa := none) _ _ _ k hx, rfl⟩) (fun q n σ' H' _ ⟨e, k, _⟩ => by subst e; exact SqL.of (k.get0 hv0)) (fun q n y σ' H2 H3 hy ⟨e, k2, x, o1, o2, o3, hx, hσ⟩ k3 => ?_) (fun q σ' H2 ⟨e, k2, x, o1, o2, o3, hx, hσ⟩ => ?_)
  · subst hσ
    have hn : n < S.length := by rw [← rv.1]; exact (List.getElem?_eq_some_iff.mp hy).1
    have k23 := k2.trans k3
    have hx3 : NL H (RVs K (sumdF D S n)) x H3 := Stb.st (pa := none) _ _ _ k3 hx
    have hy3 : IsR K (S.getD n 0) y H3 := Stb.st (pa := none) _ _ _ k23 (rv.2 n y hy)
    refine ss_ifb (pa := none) (k := !decide (sgn (S.getD n 0) = 0)) (et_neI (ev_sign T hr (by decide) (ev_n (P := IsR K (S.getD n 0)) 4 hy3)) ev_int rfl) (fun h0 H4 k4 => ?_) (fun h0 H4 k4 => ?_)
    · have h0 : S.getD n 0 ≠ 0 := fun z => by
        rw [decide_eq_true (sgn_ne.mpr z)] at h0
        cases h0
      have k24 := k23.trans k4
      have hu4 : IsRoot K D u H4 := Stb.st (pa := none) _ _ _ k24 hu
      have hx4 : NL H (RVs K (sumdF D S n)) x H4 := Stb.st (pa := none) _ _ _ k4 hx3
      refine ss_set (pa := none) 2 (P := NL H (RVs K (sumdF D S (n + 1)))) (ev_c2 (Pb := NL H4 (Each (powerSum D n).length (fun i => IsR K (S.getD n 0 * (powerSum D n).getD i 0)))) (c_sum_of T) hr (by decide) (ev_n 2 hx4)
        (ev_lcQ (qs := powerSum D n) 5 (fun i => IsR K (S.getD n 0 * (powerSum D n).getD i 0)) (ev_c2 (c_power_sum T) hr (by decide) (ev_n 0 hu4) (ev_v 3) fun a b H5 k5 ha hb => ⟨_, ⟨D, n, ha, hb, ok.d, by have := ok.ld; omega, by have := ok.ls; omega, rfl⟩, fun v H6 _ h => h.rl⟩) potN (by
          rw [powerSum_len ok.ld1]
          have := ok.ld
          have := ok.ls
          unfold nD
          omega) fun m z H5 hm hz k5 s0 H0 C cl fp => ?_)
        fun a b H5 k5 ha hb => ⟨_, ⟨_, _, ha.rl, (show NL H4 (RVs K ((powerSum D n).map fun x => S.getD n 0 * x)) b H5 from let ⟨p, xs, e, n', hp, r⟩ := hb; ⟨p, xs, e, n', hp, each_mapQ r⟩).rl, (ok.sm n (by omega)).1, ok.tm n hn, by have := (ok.sm n (by omega)).2; omega, ?_, rfl⟩, fun v H6 _ h => ?_⟩) fun x' H5 k5 hx' => ss_nil (ss_nil ⟨e, k24.trans k5, x', _, _, _, hx', rfl⟩)
      · exact ev_rmul T hr (by decide) (ok.s n) (ok.ps n hn m) (ev_n (P := IsR K (S.getD n 0)) 4 (hy3.kp (k4.trans k5))) (ev_num (ev_n (P := IsR K ((powerSum D n).getD m 0)) 5 hz))
      · rw [List.length_map, powerSum_len ok.ld1]
        have := ok.ld
        have := ok.ls
        unfold nD
        omega
      · have h2 : NL H (RVs K (sumP (sumdF D S n) ((powerSum D n).map fun x => S.getD n 0 * x))) v H6 := h.back (k24.trans k5)
        show NL H (RVs K (if S.getD n 0 = 0 then _ else _)) v H6
        rw [if_neg h0]
        exact h2
    · have h0 : S.getD n 0 = 0 := by simpa [sgn_ne] using h0
      refine ss_nil (ss_nil ⟨e, k23.trans k4, x, _, _, _, ?_, rfl⟩)
      show NL H (RVs K (if S.getD n 0 = 0 then _ else _)) x H4
      rw [if_pos h0]
      exact Stb.st (pa := none) _ _ _ k4 hx3
  · subst hσ
    rw [show vs.length = S.length from rv.1] at hx
    exact ss_ret (pa := none) (ev_n (P := NL H (RVs K (sumdF D S S.length))) 2 hx) fun v' H' k h => hQ v' H' (k2.trans k) h
theorem c_summed_up (T : Txt K mg) : Cal P w K mg base "summed_up" 8 [] (spN (P3 fun u v z H Po => ∃ D a b, IsRoot K D u H ∧ NLT K a v H ∧ NLT K b z H ∧ SumOk D (trim a) ∧ SzL b ∧ a.length ≤ 31 ∧ b.length ≤ 31 ∧ Po = NL H (RVs K (sumP (sumdF D (trim a) (trim a).length) (trim b))))) := by
  refine (def3 (N := ["root", "first", "second", "near", "far"]) T.f_Fsummed_up "root" "first" "second" fun cdv A outer s E H u v z Po Q hr nd ⟨D, a, b, hu, hv, hz, ok, sb, la, lb, hPo⟩ hQ => ?_).named T.g_summed_up
  subst hPo
  obtain ⟨tk, i30⟩ := T.i_MOST_DEGREE
  refine ss_expr (pa := none) (P := fun _ _ => True) (ev_c1 (c_want_root T) hr (by decide) (ev_n 0 hu) fun x H1 _ hx => ⟨_, ⟨D, hx, rfl⟩, fun _ _ _ _ => trivial⟩) fun _ H1 k1 _ => ?_
  have hv1 : NLT K a v H1 := Stb.st (pa := none) _ _ _ k1 hv
  have hz1 : NLT K b z H1 := Stb.st (pa := none) _ _ _ k1 hz
  refine ss_par (pa := none) (Pa := NL H (RVs K (trim a))) (Pb := NL H (RVs K (trim b))) 3 4 (eva2 (ev_c1 (c_want_poly T) hr (by decide) (ev_n 1 hv1) fun x H2 k2 hx => ⟨_, ⟨a, hx, by omega, rfl⟩, fun v H3 _ h => h.back (k1.trans k2)⟩) (ev_c1 (c_want_poly T) hr (by decide) (ev_n 2 hz1) fun x H2 k2 hx => ⟨_, ⟨b, hx, by omega, rfl⟩, fun v H3 _ h => h.back (k1.trans k2)⟩)) fun x y H2 k2 hx hy => ?_
  have h1 := trim_le a
  have h2 := trim_le b
  refine ss_expr (pa := none) (P := fun _ _ => True) (ev_c3 (Pa := fun _ _ => True) (A := ⟨fun _ _ _ _ _ => trivial⟩) (Pc := Is (.int (max ((trim a).length : Int) (trim b).length - 1))) (c_want_at_most T) hr (by decide) (ev_str.imp fun _ _ _ _ => trivial) (ev_glob (v := .int 30) i30 ⟨_, rfl⟩) (ev_sub (ev_max T.n_max (ev_lenR T.n_len (ev_n 3 hx.rl)) (ev_lenR T.n_len (ev_n 4 hy.rl))) ev_int)
    fun x y z H2 k2 _ ey ez => ⟨_, ⟨30, _, ey, ez, by omega, rfl⟩, fun _ _ _ _ => trivial⟩) fun _ H3 k3 _ => ?_
  have k13 := (k1.trans k2).trans k3
  have hx3 : NL H (RVs K (trim a)) x H3 := Stb.st (pa := none) _ _ _ k3 hx
  have hy3 : NL H (RVs K (trim b)) y H3 := Stb.st (pa := none) _ _ _ k3 hy
  have hu3 : IsRoot K D u H3 := Stb.st (pa := none) _ _ _ k13 hu
  exact ss_ret (pa := none) (P := NL H (RVs K (sumP (sumdF D (trim a) (trim a).length) (trim b)))) (ev_c2 (Pa := NL H3 (RVs K (sumdF D (trim a) (trim a).length))) (c_sum_of T) hr (by decide) (ev_c2 (c_summed T) hr (by decide) (ev_n 0 hu3) (ev_n 3 hx3.rl) fun x y H4 k4 hx hy => ⟨_, ⟨D, trim a, hx, hy, ok, rfl⟩, fun v H5 _ h => h.back k4⟩) (ev_n 4 hy3.rl)
    fun x y H4 k4 hx hy => ⟨_, ⟨_, _, hx.rl, hy, (ok.sm _ (Nat.le_refl _)).1, szl_trim sb, by have := (ok.sm _ (Nat.le_refl _)).2; omega, by omega, rfl⟩, fun v H5 _ h => h.back (k13.trans k4)⟩) fun v' H' k h => hQ v' H' (k13.trans k) h
end
end RR
-- RY3
namespace RR
open PySem PySem.Spec PyProof.Rows L2
/-- what one step of the taking off needs -/
structure StepOk (D : List Rat) (m : Nat) (l : List Rat) : Prop where
  sl : SzL l
  L : Sz (Lq D m)
  L0 : Lq D m ≠ 0
  q : Sz (stepQ D m l)
  ps : SzL (powerSum D m)
  tm : ∀ i, Sz (stepQ D m l * (powerSum D m).getD i 0)
  sh : (stepL D m l).length < nD D + m
def LawOk (D : List Rat) : Nat → List Rat → Prop
  | 0, _ => True
  | m + 1, l => (l.length = nD D + m → StepOk D m l ∧ LawOk D m (stepL D m l)) ∧ (l.length ≠ nD D + m → LawOk D m l)
theorem lawOk_skip {D l : List Rat} : ∀ {m k : Nat}, l.length < nD D + k → k ≤ m → LawOk D m l → LawOk D k l
  | 0, k, h, hk, ok => by
    have : k = 0 := by omega
    subst this
    trivial
  | m + 1, k, h, hk, ok => by
    by_cases e : k = m + 1
    · subst e; exact ok
    · exact lawOk_skip h (by omega) (ok.2 (by omega))
theorem lawF_len {D : List Rat} : ∀ {m : Nat} {f l : List Rat}, (lawF D m f l).1.length = f.length
  | 0, f, l => rfl
  | m + 1, f, l => by
    unfold lawF
    split
    · rw [lawF_len, List.length_set]
    · exact lawF_len
theorem rl_fr {K : PySem.W.Frag} {qs : List Rat} {H : Hp} {p pf : Addr} {xs zs ws : List V} (hp : H p = some (.lst xs)) (h : RVs K qs xs H) (hf : H pf = some (.lst zs)) (n : p ≠ pf) : upd H pf (.lst ws) p = some (.lst xs) ∧ RVs K qs xs (upd H pf (.lst ws)) :=
  ⟨by rw [upd_ne n]; exact hp, rvs_fr hf h⟩
/-- what the whole taking off needs -/
structure TakOk (D P : List Rat) : Prop where
  d : SzL D
  ld : 3 ≤ D.length ∧ D.length ≤ 20
  p : SzL P
  lp : P.length ≤ 30
  law : LawOk D (cnt D P) P
section
variable {P : Program} {w : World} {K : PySem.W.Frag} {mg : Str → Option Value} {base : Heap}
def TkPo (K : PySem.W.Frag) (H : Hp) (r : List Rat × List Rat) : PoT := Tup2 (NL H (RVs K (trim r.1))) (NL H (RVs K r.2))
theorem c_taken_by (T : Txt K mg) : Cal P w K mg base "taken_by" 7 [] (spN (P2 fun u v H Po => ∃ D a, IsRoot K D u H ∧ RL K a v H ∧ TakOk D a ∧ Po = TkPo K H (takenF D a))) := by
  refine (def2 (N := ["root", "poly", "whole", "left", "found", "place", "number", "near", "far"]) T.f_Ftaken_by "root" "poly" fun cdv A outer s E H u v Po Q hr nd ⟨D, a, hu, hv, ok, hPo⟩ hQ => ?_).named T.g_taken_by
  subst hPo
  obtain ⟨d3, d20⟩ := ok.ld
  have lp := ok.lp
  have hnD : ((D.length : Int) - 1) = ((nD D : Nat) : Int) := by unfold nD; omega
  refine ss_par (pa := none) (Pa := Is (.int ((nD D : Nat) : Int))) (Pb := NL H (RVs K a)) 2 3 (eva2 (by rw [← hnD]; exact ev_sub (ev_lenR T.n_len (ev_rpoly T (ev_n 0 hu))) ev_int) (ev_listOf T.n_list (ev_n 1 hv) fun v' H' k ⟨p, xs, e, hp, r⟩ => ⟨p, xs, e, .inl (SqL.of hp), fun q hq => ⟨q, xs, rfl, k.free hq, upd_same, StbA.st _ _ _ (Kp.new (pa := none) hq) r⟩⟩)) fun x y H1 k1 e1 hy => ?_
  subst e1
  obtain ⟨py, ys, rfl, hy0, hy1, rvy⟩ := hy
  have hy1' : RL K a (.ref py) H1 := ⟨py, ys, rfl, hy1, rvy⟩
  have hcnt : (max (0 : Int) ((a.length : Int) - ((nD D : Nat) : Int) + 1)).toNat = cnt D a := by unfold cnt; omega
  refine ss_set (pa := none) 4 (ev_zeros T hr (by decide) (ev_max T.n_max ev_int (ev_add (ev_sub (ev_lenR T.n_len (ev_n 3 hy1')) (ev_v 2)) ev_int)) (by omega) (by unfold nD; omega)) fun x H2 k2 hx => ?_
  rw [hcnt] at hx
  obtain ⟨pf, fs, rfl, hf0, hf1, rvf⟩ := hx
  have hne : py ≠ pf := fun z => by rw [z, hf0] at hy1; cases hy1
  have k12 := k1.trans k2
  refine ss_while (pa := none) (fun n σ H' => ∃ m f l py ys fs o5 o6, n = l.length ∧ lawF D m f l = takenF D a ∧ LawOk D m l ∧ l.length < nD D + m ∧ m ≤ f.length ∧ f.length ≤ 60 ∧ l.length ≤ 30 ∧ Kp none H H' ∧ py ≠ pf ∧ H py = none ∧ H' py = some (.lst ys) ∧ RVs K l ys H' ∧ H' pf = some (.lst fs) ∧ RVs K f fs H' ∧
    σ = [some u, some v, some (V.int ((nD D : Nat) : Int)), some (V.ref py), some (V.ref pf), o5, o6, none, none]) a.length ?_ fun n σ' H3 ⟨m, f, l, py, ys, fs, o5, o6, en, hF, hok, hlm, hmf, hf60, hl30, k3, hne, hpy0, hpy, rvl, hpf, rvf, hσ⟩ => ?_
  · by_cases hc : a.length < nD D
    · refine ⟨0, List.replicate (cnt D a) 0, a, py, ys, fs, _, _, rfl, ?_, trivial, by omega, Nat.zero_le _, by rw [List.length_replicate]; unfold cnt; omega, lp, k12, hne, hy0, k2.get0 hy1, StbA.st _ _ _ k2 rvy, hf1, rvf, rfl⟩
      have : cnt D a ≤ 0 ∨ 0 ≤ cnt D a := by omega
      unfold takenF
      exact (lawF_skip (k := 0) (by omega) (Nat.zero_le _)).symm
    · exact ⟨cnt D a, List.replicate (cnt D a) 0, a, py, ys, fs, _, _, rfl, rfl, ok.law, by unfold cnt; omega, by rw [List.length_replicate]; exact Nat.le_refl _, by rw [List.length_replicate]; unfold cnt; omega, lp, k12, hne, hy0, k2.get0 hy1, StbA.st _ _ _ k2 rvy, hf1, rvf, rfl⟩
  subst hσ
  subst en
  have hl3 : RL K l (.ref py) H3 := ⟨py, ys, rfl, hpy, rvl⟩
  refine ⟨_, et_ge (k := decide (nD D ≤ l.length)) (ev_lenR T.n_len (ev_n 3 hl3)) (ev_v 2) (decide_eq_decide.mpr (by omega)), fun H4 k4 e4 => ?_, fun H4 k4 e4 => ?_⟩
  · have hge : nD D ≤ l.length := of_decide_eq_true e4.symm
    have k34 := k3.trans k4
    -- the place
    obtain ⟨c, hc⟩ : ∃ c, l.length = nD D + c := ⟨l.length - nD D, by omega⟩
    have hcm : c + 1 ≤ m := by omega
    rw [lawF_skip (k := c + 1) (by omega) hcm] at hF
    have hok := lawOk_skip (k := c + 1) (by omega) hcm hok
    obtain ⟨so, hok⟩ := hok.1 hc
    unfold lawF at hF
    rw [if_pos hc] at hF
    have hl4 : RL K l (.ref py) H4 := hl3.kp k4
    have hu4 : IsRoot K D u H4 := Stb.st (pa := none) _ _ _ k34 hu
    have nD1 : 2 ≤ nD D := by unfold nD; omega
    refine ss_set (pa := none) 5 (P := Is (.int (c : Nat))) (by rw [show ((c : Nat) : Int) = (l.length : Int) - ((nD D : Nat) : Int) by omega]; exact ev_sub (ev_lenR T.n_len (ev_n 3 hl4)) (ev_v 2)) fun x H5 k5 e5 => ?_
    subst e5
    have hl5 : RL K l (.ref py) H5 := hl4.kp k5
    have hu5 : IsRoot K D u H5 := Stb.st (pa := none) _ _ _ k5 hu4
    refine ss_set (pa := none) 6 (P := IsR K (stepQ D c l)) (ev_over T hr (by decide) (so.sl _) so.L so.L0 (ev_ixR (ev_n 3 hl5) (ev_neg ev_int) (l.length - 1) (ixN_last (by omega))) (ev_num (ev_rmul T hr (by decide) (ok.d _) ?_ (ev_ixR (ev_rpoly T (ev_n 0 hu5)) (ev_neg ev_int) (D.length - 1) (ixN_last (by omega))) (ev_numI (ev_add (ev_half T hr (by decide) (ev_n 0 hu5)) (ev_v 5)))))) fun nv H6 k6 hnv => ?_
    · rw [show (((D.length / 2 : Nat) : Int) + ((c : Nat) : Int)) = ((D.length / 2 + c : Nat) : Int) by omega]
      exact Sz.nat (Nat.lt_trans (show D.length / 2 + c < 1000 by omega) (by decide))
    have k46 := (k4.trans k5).trans k6
    have hpf6 := k46.get0 hpf
    have hpy6 := k46.get0 hpy
    have rvl6 : RVs K l ys H6 := StbA.st (pa := none) _ _ _ k46 rvl
    have rvf6 : RVs K f fs H6 := StbA.st (pa := none) _ _ _ k46 rvf
    refine ss_sub (pa := none) (ev_n (P := IsR K (stepQ D c l)) 6 hnv) (ev_v 4) (ev_v 5) fun nv' x' y' H7 k7 hnv' e2 e3 => ?_
    subst e2
    subst e3
    have hpf7 := k7.get0 hpf6
    have rvf7 : RVs K f fs H7 := StbA.st (pa := none) _ _ _ k7 rvf6
    have k37 := (k3.trans k46).trans k7
    refine ⟨pf, fs, _, c, rfl, rfl, hpf7, by rw [show fs.length = f.length from rvf.1]; exact ixN_nat (by omega), ?_⟩
    obtain ⟨hpy8, rvl8⟩ := rl_fr (ws := fs.set c nv') (k7.get0 hpy6) (StbA.st (pa := none) _ _ _ k7 rvl6) hpf7 hne
    have rvf8 : RVs K (f.set c (stepQ D c l)) (fs.set c nv') (upd H7 pf (.lst (fs.set c nv'))) := rvs_fr hpf7 (rvs_set rvf7 hnv')
    have hpfH : H pf = none := k1.free hf0
    have k38 : Kp none H (upd H7 pf (.lst (fs.set c nv'))) := k37.mut hpfH
    have hnv8 : IsR K (stepQ D c l) nv (upd H7 pf (.lst (fs.set c nv'))) := IsR.fr hpf7 (fun b o hb n => by rw [upd_ne n]; exact hb) (hnv.kp k7)
    have hpf8 : upd H7 pf (.lst (fs.set c nv')) pf = some (.lst (fs.set c nv')) := upd_same
    generalize upd H7 pf (.lst (fs.set c nv')) = H8 at hpy8 rvl8 rvf8 k38 hnv8 hpf8 ⊢
    have hu8 : IsRoot K D u H8 := Stb.st (pa := none) _ _ _ k38 hu
    have hl8 : RL K l (.ref py) H8 := ⟨py, ys, rfl, hpy8, rvl8⟩
    have hpl : (powerSum D c).length = l.length := by rw [powerSum_len (by omega), hc]; omega
    refine ss_set (pa := none) 3 (P := NL H8 (RVs K (stepL D c l))) (ev_c1 (Pa := NL H8 (RVs K (mk l.length fun i => l.getD i 0 - stepQ D c l * (powerSum D c).getD i 0))) (c_trimmed T) hr (by decide) ((ev_lcZQ (qs := l) (rs := powerSum D c) 7 8 (fun i => IsR K (l.getD i 0 - stepQ D c l * (powerSum D c).getD i 0)) T.n_zip (ev_n 3 hl8)
      (ev_c2 (c_power_sum T) hr (by decide) (ev_n 0 hu8) (ev_v 5) fun x y H9 k9 hx hy => ⟨_, ⟨D, c, hx, hy, ok.d, by omega, by omega, rfl⟩, fun v H _ h => h.rl⟩) potN (by omega) hpl.symm fun i x y H9 hi hx hy k9 s0 H0 C cl fp => ?_).imp fun v H9 k9 h => nl_mk h) fun x H9 k9 hx => ⟨_, ⟨_, hx.rl, by rw [mk_len]; omega, rfl⟩, fun v H10 _ h => h.back k9⟩) fun x H9 k9 hx => ss_nil ?_
    · exact ev_rsub T hr (by decide) (so.sl i) (so.tm i) (ev_n (P := IsR K (l.getD i 0)) 7 hx) (ev_num (ev_rmul T hr (by decide) so.q (so.ps i) (ev_n (P := IsR K (stepQ D c l)) 6 (hnv8.kp k9)) (ev_num (ev_n (P := IsR K ((powerSum D c).getD i 0)) 8 hy))))
    · obtain ⟨p9, y9, rfl, n9, hp9, rv9⟩ := hx
      have h9 : p9 ≠ pf := fun z => by rw [z, hpf8] at n9; cases n9
      exact ⟨(stepL D c l).length, by have := so.sh; omega, c, f.set c (stepQ D c l), stepL D c l, p9, y9, _, _, _, rfl, hF, hok, so.sh, by rw [List.length_set]; omega, by rw [List.length_set]; exact hf60, by have := so.sh; omega, k38.trans k9, h9, k38.free n9, hp9, rv9, k9.get0 hpf8, StbA.st _ _ _ k9 rvf8, rfl⟩
  · have hlt : l.length < nD D := by have := of_decide_eq_false e4.symm; omega
    rw [lawF_skip (k := 0) (by omega) (Nat.zero_le _)] at hF
    have hF : (f, l) = takenF D a := hF
    have k34 := k3.trans k4
    have hf4 : RL K f (.ref pf) H4 := ⟨pf, fs, rfl, k4.get0 hpf, StbA.st _ _ _ k4 rvf⟩
    refine ss_ret (pa := none) (P := TkPo K H (f, l)) (ev_tup2 (ev_c1 (c_trimmed T) hr (by decide) (ev_n 4 hf4) fun x H5 k5 hx => ⟨_, ⟨f, hx, by omega, rfl⟩, fun v H6 _ h => h.back (k34.trans k5)⟩) (ev_n (P := NL H (RVs K l)) 3 ⟨py, ys, rfl, hpy0, k4.get0 hpy, StbA.st _ _ _ k4 rvl⟩)) fun v' H' k h => hQ v' H' (k34.trans k) (by rw [← hF]; exact h)
theorem c_taken_off (T : Txt K mg) : Cal P w K mg base "taken_off" 8 [] (spN (P2 fun u v H Po => ∃ D a, IsRoot K D u H ∧ NLT K a v H ∧ TakOk D (trim a) ∧ a.length ≤ 31 ∧ Po = TkPo K H (takenF D (trim a)))) := by
  refine (def2 (N := ["root", "poly"]) T.f_Ftaken_off "root" "poly" fun cdv A outer s E H u v Po Q hr nd ⟨D, a, hu, hv, ok, la, hPo⟩ hQ => ?_).named T.g_taken_off
  subst hPo
  refine ss_expr (pa := none) (P := fun _ _ => True) (ev_c1 (c_want_root T) hr (by decide) (ev_n 0 hu) fun x H1 _ hx => ⟨_, ⟨D, hx, rfl⟩, fun _ _ _ _ => trivial⟩) fun _ H1 k1 _ => ?_
  have hv1 : NLT K a v H1 := Stb.st (pa := none) _ _ _ k1 hv
  have hu1 : IsRoot K D u H1 := Stb.st (pa := none) _ _ _ k1 hu
  refine ss_ret (pa := none) (P := TkPo K H (takenF D (trim a))) (ev_c2 (Pb := NL H1 (RVs K (trim a))) (c_taken_by T) hr (by decide) (ev_n 0 hu1) (ev_c1 (c_want_short T) hr (by decide) (ev_n 1 hv1) fun x H2 k2 hx => ⟨_, ⟨a, hx, la, rfl⟩, fun v H3 _ h => h.back k2⟩) fun x y H2 k2 hx hy => ⟨_, ⟨D, trim a, hx, hy.rl, ok, rfl⟩, fun v H3 _ ⟨t, x, y, e, ht, h1, h2⟩ => ⟨t, x, y, e, ht, h1.back (k1.trans k2), h2.back (k1.trans k2)⟩⟩) fun v' H' k h => hQ v' H' (k1.trans k) h
end
end RR
-- RL1
namespace RR
open PySem PySem.Spec PyProof.Rows L2
/-- a list of numbers -/
def NLs (K : PySem.W.Frag) (qs : List Rat) : V → Hp → Prop := fun v H => ∃ p xs, v = .ref p ∧ H p = some (.lst xs) ∧ NVs K qs xs H
instance {K : PySem.W.Frag} {qs : List Rat} : Stb none (NLs K qs) := ⟨fun _ _ _ k ⟨p, xs, e, h, r⟩ => ⟨p, xs, e, k.get0 h, StbA.st _ _ _ k r⟩⟩
theorem RL.nls {K : PySem.W.Frag} {qs : List Rat} {v : V} {H : Hp} (h : RL K qs v H) : NLs K qs v H := let ⟨p, xs, e, hp, r⟩ := h; ⟨p, xs, e, hp, r.num⟩
def keptI (t : Nat → Bool) : Nat → List Int
  | 0 => []
  | n + 1 => if t n then keptI t n ++ [(n : Int) + 1] else keptI t n
theorem kept_iv (t : Nat → Bool) : ∀ n, kept t n = iv (keptI t n)
  | 0 => rfl
  | n + 1 => by
    unfold kept keptI
    split
    · rw [kept_iv t n]
      show List.map V.int (keptI t n) ++ List.map V.int [(n : Int) + 1] = List.map V.int _
      rw [List.map_append]
    · exact kept_iv t n
theorem keptI_max {c : Nat → Rat} {t : Nat → Bool} (ht : ∀ i, t i = false ↔ c i = 0) : ∀ n, (∀ y ∈ keptI t n, y ≤ (tl c n : Nat)) ∧ (tl c n = 0 ∨ ((tl c n : Nat) : Int) ∈ keptI t n)
  | 0 => ⟨fun y h => (by cases h), .inl rfl⟩
  | n + 1 => by
    obtain ⟨h1, h2⟩ := keptI_max ht n
    unfold keptI tl
    cases e : t n with
    | false =>
      rw [if_pos ((ht n).mp e)]
      exact ⟨h1, h2⟩
    | true =>
      have hc : c n ≠ 0 := fun z => by rw [(ht n).mpr z] at e; cases e
      rw [if_neg hc]
      refine ⟨fun y hy => ?_, .inr ?_⟩
      · rcases List.mem_append.mp hy with h | h
        · have := h1 y h
          have := tl_le c n
          omega
        · have := List.mem_singleton.mp h
          omega
      · exact List.mem_append.mpr (.inr (List.mem_singleton.mpr (by omega)))
theorem max_is {c : Nat → Rat} {t : Nat → Bool} (ht : ∀ i, t i = false ↔ c i = 0) {n : Nat} {m : Int} (hm : m ∈ (0 : Int) :: keptI t n) (h : ∀ y, y ∈ (0 : Int) :: keptI t n → y ≤ m) : m = (tl c n : Nat) := by
  obtain ⟨h1, h2⟩ := keptI_max ht n
  have a : m ≤ (tl c n : Nat) := by
    rcases List.mem_cons.mp hm with e | e
    · omega
    · exact h1 m e
  have b : ((tl c n : Nat) : Int) ≤ m := by
    rcases h2 with e | e
    · have := h 0 (List.mem_cons_self ..)
      omega
    · exact h _ (List.mem_cons_of_mem _ e)
  omega
section
variable {P : Program} {w : World} {K : PySem.W.Frag} {mg : Str → Option Value} {base : Heap}
theorem c_told (T : Txt K mg) : Cal P w K mg base "_law_told" 6 [] (spN (P1 fun v H Po => ∃ qs, NLs K qs v H ∧ SzL qs ∧ qs.length ≤ 500 ∧ Po = NL H (RVs K (trim qs)))) := by
  refine (def1 (N := ["_law_numbers", "_law_found", "_law_number", "_law_last", "_law_at"]) T.f_F_law_told "_law_numbers" fun cdv A outer s E H v Po Q hr nd ⟨qs, hv, sq, lq, hPo⟩ hQ => ?_).named T.g__law_told
  subst hPo
  obtain ⟨p, xs, rfl, hp, rv⟩ := hv
  have hl : xs.length = qs.length := rv.1
  refine ss_set (pa := none) 1 (ev_lcL 2 xs (fun i => IsR K (qs.getD i 0)) (ev_v 0) potN (by omega) (fun v' H' k e => ⟨p, e, fun H'' k2 => SqL.of ((k.trans k2).get0 hp)⟩) fun n y H' hy k s0 H0 C cl fp => ?_) fun x H1 k1 hx => ?_
  · refine (ev_radd T hr (by decide) (Sz.int (i := 0) (by decide)) (sq n) (ev_rat1 T hr ev_int) (ev_n (P := Num K (qs.getD n 0)) 2 (Stb.st (pa := none) _ _ _ k (rv.2 n y hy)))).imp fun v' H'' _ h => ?_
    rw [Rat.intCast_zero, Rat.zero_add] at h
    exact h
  have hx : NL H (RVs K qs) x H1 := by rw [hl] at hx; exact hx
  have ht : ∀ i, (!decide (sgn (qs.getD i 0) = 0)) = false ↔ qs.getD i 0 = 0 := fun i => by
    rw [← sgn_ne]
    simp
  refine ss_set (pa := none) 3 (P := Is (.int (tl (fun i => qs.getD i 0) qs.length : Nat))) (ev_blt1 (cr_max rfl) (by decide +kernel) T.n_max (ea1 (ev_cat (P := fun v H' => ∃ q, v = .ref q ∧ H' q = some (.lst (iv ((0 : Int) :: keptI (fun i => !decide (sgn (qs.getD i 0) = 0)) qs.length)))) (Pa := NL H1 (AC (Is (.int 0)) AN))
    (ev_list (ea ev_int ea0) fun vs H' _ ⟨_, _, e, _, e2⟩ => by rw [e, show _ = [] from e2]; exact small (by show 1 ≤ 100000; decide))
    (ev_lcIf 4 (z := (qs.length : Nat)) (fun i => !decide (sgn (qs.getD i 0) = 0)) T.n_range (ev_lenR T.n_len (ev_n 1 hx.rl)) (by omega) (by omega) potN (fun n H' hn k s0 H0 C cl fp => ?_) (fun n H' hn k s0 H0 C cl fp => ev_add (ev_v 4) ev_int)) fun a b H2 k2 ⟨pa', xa, e1, _, h1, y, r, e3, ey, er⟩ ⟨pb, xb, e2, _, h2, e4⟩ => ?_)) fun vs H2 Q' k2 ⟨a, r, e, ⟨q, ea, hq⟩, er⟩ z => ?_) fun x2 H2 k2 e2 => ?_
  · have hn : n < qs.length := by simpa using hn
    exact et_neI (ev_sign T hr (by decide) (ev_ixR (ev_n 1 (hx.rl.kp k)) (ev_v 4) n (ixN_nat hn))) ev_int rfl
  · have kl : (kept (fun i => !decide (sgn (qs.getD i 0) = 0)) qs.length).length ≤ qs.length := by
      have : ∀ n, (kept (fun i => !decide (sgn (qs.getD i 0) = 0)) n).length ≤ n := fun n => by
        induction n with
        | zero => exact Nat.le_refl _
        | succ n ih =>
          unfold kept
          split
          · rw [List.length_append, List.length_singleton]; omega
          · omega
      exact this _
    have exa : xa = [V.int 0] := by rw [e3, show y = _ from ey, show r = [] from er]
    have exb : xb = kept (fun i => !decide (sgn (qs.getD i 0) = 0)) qs.length := e4
    refine ⟨pa', pb, xa, xb, e1, e2, h1, h2, small ?_, fun q hq => ⟨q, rfl, ?_⟩⟩
    · rw [exa, exb]
      show 1 + _ ≤ _
      omega
    · rw [upd_same, exa, exb, kept_iv]
      rfl
  · obtain rfl : r = [] := er
    refine ⟨q, _, by rw [e, ea], SqL.of hq, by simp, fun m hm h => ?_⟩
    rw [max_is ht hm h]
    exact z _ H2 (Kp.refl _) rfl
  · subst e2
    have hx2 : RL K qs x H2 := hx.rl.kp k2
    refine ss_ret (pa := none) (ev_sl (P := NL H (RVs K (trim qs))) (ev_n 1 hx2) eo_none (eo_some (ev_v 3)) fun v' H' k ⟨p, ys, e, hp, r⟩ => ⟨p, ys, e, SqL.of hp, fun q hq => ⟨q, _, rfl, ((k1.trans k2).trans k).free hq, upd_same, ?_⟩⟩) fun v' H' k h => hQ v' H' ((k1.trans k2).trans k) h
    have hle : tl (fun i => qs.getD i 0) qs.length ≤ ys.length := by rw [show ys.length = qs.length from r.1]; exact tl_le _ _
    rw [cut_take hle]
    exact rvs_take (StbA.st (pa := none) _ _ _ (Kp.new hq) r) (tl_le _ _)
end
end RR
-- RQE
/-! != of lists and pairs whose items have an own == -/
namespace RNE
open PySem PySem.SeqAt
open AutoSeq1 (wpAny_loadPart')
open MeetsSeq MeetsSeq2 MeetsSeq3 SeqRoads2
section
variable {prog : Program} {w : World} {A : Around} {R : Result → Shared → Prop}
theorem loop (l b : Addr) (N : Nat) (I : Nat → Shared → Prop) (hl : GQ.ListI prog w A (fun e s' => R (.error e) s') l b N I) (fin : ∀ s, I N s → R (.ok (.ret (.bool false))) s) (k : Nat) :
    ∀ i : Nat, N - i = k → i ≤ N → ∀ s, I i s → wpAny (model prog w) A.in1 (Builtin.«list.__eq__.loop» ⟨[.ref l, .ref b, rawInt i, rawInt 3], []⟩) (GQ.FinOf prog w A R) (fun e s' => R (.error e) s') s := by
  induction k with
  | zero =>
    intro i hk hi s h
    obtain ⟨items, items2, n, n2, hl1, hb1, hs1, hs2, _⟩ := hl _ _ h
    have hi' : i = N := by omega
    have hR : R (.ok (.ret (.bool false))) s := fin s (hi' ▸ h)
    obtain ⟨hp, g, d, tk, os⟩ := s
    wp_walk using wpAny_loadPart' hl1, wpAny_loadPart' hb1
    have hi1 : items[((i : Nat) : Int).toNat]? = none := by simp; omega
    have hi2 : items2[((i : Nat) : Int).toNat]? = none := by simp; omega
    rw [hi1, hi2]
    wp_walk using wpAny_loadPart' hl1, wpAny_loadPart' hb1
    show R (.ok (.ret (.bool (items.size != items2.size)))) _
    rw [hs1, hs2]
    simpa using hR
  | succ k ih =>
    intro i hk hi s h
    obtain ⟨items, items2, n, n2, hl1, hb1, hs1, hs2, turn⟩ := hl _ _ h
    have hlt : i < items.size := by omega
    have hlt2 : i < items2.size := by omega
    have ht := turn hlt hlt2
    obtain ⟨hp, g, d, tk, os⟩ := s
    wp_walk using wpAny_loadPart' hl1, wpAny_loadPart' hb1
    have hi1 : items[((i : Nat) : Int).toNat]? = some items[i] := by simp [hlt]
    have hi2 : items2[((i : Nat) : Int).toNat]? = some items2[i] := by simp [hlt2]
    have hc : ((i : Int) + 1) = ((i + 1 : Nat) : Int) := by omega
    rw [hi1, hi2]
    refine wpAny_bind (wpAny_mono ht (fun r s2 h2 => ?_) fun _ _ x => x)
    obtain ⟨hr, h2⟩ := h2
    subst hr
    have hrec := ih (i + 1) (by omega) (by omega) s2 h2
    obtain ⟨hp2, g2, d2, tk2, os2⟩ := s2
    wp_walk
    rw [hc]
    exact ⟨plainId_quiet plain_eq_loop _, codeAny_builtin entry_eq_loop (by
      rw [Around.under_plainId plain_eq_loop _]
      exact hrec)⟩
theorem list (l b : Addr) (N : Nat) (I : Nat → Shared → Prop) (hl : GQ.ListI prog w A (fun e s' => R (.error e) s') l b N I) (fin : ∀ s, I N s → R (.ok (.ret (.bool false))) s) {s : Shared} (h : I 0 s) :
    wpAny (model prog w) A.in1 (Builtin.«list.__ne__» ⟨[.ref l, .ref b], []⟩) (GQ.FinOf prog w A R) (fun e s' => R (.error e) s') s := by
  obtain ⟨items, items2, n, n2, hl1, hb1, hs1, hs2, _⟩ := hl _ _ h
  have hrec := loop (A := A) (R := R) l b N I hl fin _ 0 rfl (Nat.zero_le _) s h
  obtain ⟨hp, g, d, tk, os⟩ := s
  have f3 := AutoSeq1.sub_list_list
  have hne : ¬ (items.size != items2.size) = true := by simp [hs1, hs2]
  wp_walk using wpAny_loadPart' hl1, wpAny_loadPart' hb1
  exact ⟨plainId_quiet plain_eq_loop _, codeAny_builtin entry_eq_loop (by
    rw [Around.under_plainId plain_eq_loop _]
    exact hrec)⟩
theorem tuple (l b : Addr) (items items2 : Array Value) (n n2 : Nat) (dd dd2 : Option Addr) (sl sl2 : Array (Option Value)) (hsz : items.size = items2.size) (I : Nat → Shared → Prop)
    (turn : ∀ i (h1 : i < items.size) (h2 : i < items2.size) s, I i s → wpAny (model prog w) A.in1 (eqBool items[i] items2[i]) (fun r s' => r = true ∧ I (i + 1) s') (fun e s' => R (.error e) s') s)
    (fin : ∀ s, I items.size s → R (.ok (.ret (.bool false))) s) {s : Shared} (hl1 : s.heap.get? l = some { cls := .type "tuple", dict := dd, data := .seq items n, slots := sl }) (hb1 : s.heap.get? b = some { cls := .type "tuple", dict := dd2, data := .seq items2 n2, slots := sl2 }) (h : I 0 s) :
    wpAny (model prog w) A.in1 (Builtin.«tuple.__ne__» ⟨[.ref l, .ref b], []⟩) (GQ.FinOf prog w A R) (fun e s' => R (.error e) s') s := by
  have f2 := AutoSeq1.sub_tuple_tuple
  have hZ : (items.toList.zip items2.toList).length = items.size := by simp [hsz]
  have h0 := h
  obtain ⟨hp, g, d, tk, os⟩ := s
  wp_walk using wpAny_loadPart' hl1, wpAny_loadPart' hb1, wpAny_forIn_list _ (fun rest b s' => b.1 = none ∧ ∃ i, rest = (items.toList.zip items2.toList).drop i ∧ i ≤ items.size ∧ I i s') _
  case turn =>
    rintro ⟨y, x⟩ rest b s' ⟨hb', i, hz, hi, hI⟩
    have hlt : i < (items.toList.zip items2.toList).length := by
      rcases Nat.lt_or_ge i (items.toList.zip items2.toList).length with h' | h'
      · exact h'
      · rw [List.drop_of_length_le h'] at hz; cases hz
    have h1 : i < items.size := hZ ▸ hlt
    have h2 : i < items2.size := hsz ▸ h1
    rw [List.drop_eq_getElem_cons hlt] at hz
    injection hz with hyx hrest
    have hy : y = items[i] := by have := congrArg Prod.fst hyx; simpa using this
    have hx : x = items2[i] := by have := congrArg Prod.snd hyx; simpa using this
    subst hy hx
    refine wpAny_bind (wpAny_mono (turn i h1 h2 s' hI) (fun r s2 q2 => ?_) fun _ _ x => x)
    obtain ⟨hr, q2⟩ := q2
    subst hr
    wp_walk
    exact ⟨rfl, i + 1, hrest, h1, q2⟩
  case fin =>
    rintro ⟨b1, b2⟩ s' ⟨hb', i, hz, hi, hI⟩
    simp only at hb'
    subst hb'
    have hge : items.size ≤ i := by
      rcases Nat.lt_or_ge i (items.toList.zip items2.toList).length with h' | h'
      · rw [List.drop_eq_getElem_cons h'] at hz; cases hz
      · exact hZ ▸ h'
    have hi' : i = items.size := by omega
    have hR : R (.ok (.ret (.bool false))) s' := fin s' (hi' ▸ hI)
    wp_walk
    simpa [Builtin.Tuple.tupleCompareSizes, hsz, bne] using hR
  case h =>
    exact ⟨rfl, 0, rfl, Nat.zero_le _, h0⟩
end
section
variable {prog : Program} {w : World} {A : Around} {E : Value → Shared → Prop} {s : Shared}
theorem rc_list {l b : Addr} {N : Nat} {Q : Value → Shared → Prop} (hu : A.units < cLine) (I : Nat → Shared → Prop) (hl : GQ.ListI prog w A E l b N I) (fin : ∀ s, I N s → Q (.bool false) s) (h : I 0 s) :
    wpAny (model prog w) A (richCompare .NotEq (.ref l) (.ref b)) Q E s := by
  obtain ⟨items, items2, n, n2, hl1, hb1, _, _, _⟩ := hl _ _ h
  refine wpAny_richCompare_same_room (op := .NotEq) ⟨_, hl1, rfl⟩ ⟨_, hb1, rfl⟩ F.slot_list_ne (GQ.call_here F.slot_list_ne ⟨_, hl1, rfl⟩ F.entry_list_ne (F.args_list_ne_2 _ _) ?_) hu
  exact list (R := wants (fun v s' => v ≠ .notImplemented ∧ Q v s') E) l b N I hl (fun s' q => ⟨(fun x => nomatch x), fin s' q⟩) h
theorem rc_tup {l b : Addr} {items items2 : Array Value} {Q : Value → Shared → Prop} (hsz : items.size = items2.size) (hu : A.units < cLine) (I : Nat → Shared → Prop) (hl : s.heap.IsTuple l items) (hb : s.heap.IsTuple b items2)
    (turn : ∀ i (h1 : i < items.size) (h2 : i < items2.size) s, I i s → wpAny (model prog w) A.in1 (eqBool items[i] items2[i]) (fun r s' => r = true ∧ I (i + 1) s') E s)
    (fin : ∀ s, I items.size s → Q (.bool false) s) (h : I 0 s) : wpAny (model prog w) A (richCompare .NotEq (.ref l) (.ref b)) Q E s := by
  obtain ⟨⟨cls, dd, data, sl⟩, ho, hc, n, hd⟩ := id hl
  obtain ⟨⟨cls2, dd2, data2, sl2⟩, ho2, hc2, n2, hd2⟩ := id hb
  simp only at hc hd hc2 hd2
  subst hc hd hc2 hd2
  refine wpAny_richCompare_same_room (op := .NotEq) ⟨_, ho, rfl⟩ ⟨_, ho2, rfl⟩ F.slot_tuple_ne (GQ.call_here F.slot_tuple_ne ⟨_, ho, rfl⟩ F.entry_tuple_ne (F.args_tuple_ne_2 _ _) ?_) hu
  exact tuple (R := wants (fun v s' => v ≠ .notImplemented ∧ Q v s') E) l b items items2 n n2 dd dd2 sl sl2 hsz I turn (fun s' q => ⟨(fun x => nomatch x), fin s' q⟩) ho ho2 h
end
end RNE
namespace RR
open PySem PySem.Spec PyProof.Rows L2
section
variable {X : Cx} {n k : Nat} {D : Eqv} {pa : Option Addr} {σ : L2.St} {H : Hp} {a b : Expr} {pos : Pos} {Pa Pb : V → Hp → Prop}
def RcNG (X : Cx) (n : Nat) (D : Eqv) : Prop :=
  ∀ (A : Around) (pins : List (Addr × Obj)) (s : Shared) (σ : L2.St) (H : Hp) (x y : V) (u v : Value), L2.Sub X n A → Inv X pins σ H s → RelV x u → RelV y v → D x y H →
    wpAny (model X.prog X.w) A (richCompare .NotEq u v) (fun r s' => r = .bool false ∧ ∃ H', Inv X pins σ H' s' ∧ Ext H H') X.xe s
theorem rcNG_list (hD : Mon D) (h : EqG X n D) : RcNG X (n + 1) (DList D) := by
  intro A pins s σ H x y u v sb I rx ry d
  obtain ⟨a, b, xs, ys, rfl, rfl, ha, hb, p⟩ := d
  cases rx
  cases ry
  refine RNE.rc_list (N := xs.length) sb.room.units0 (fun _ s' => LoopI X pins σ H s') (fun i s' q => ?_) (fun s' q => ⟨rfl, q⟩) ⟨H, I, Ext.rfl'⟩
  obtain ⟨H1, I1, e1⟩ := id q
  obtain ⟨z, its, k, r, e⟩ := I1.hok a _ (e1 _ _ ha)
  obtain ⟨z2, its2, k2, r2, e2⟩ := I1.hok b _ (e1 _ _ hb)
  refine ⟨its.toArray, its2.toArray, k, k2, e, e2, by rw [List.size_toArray, ← r.length], by rw [List.size_toArray, ← r2.length, ← p.1], fun h1 h2 => ?_⟩
  exact turnG hD h sb p r r2 i h1 h2 s' q
theorem rcNG_tup (hD : Mon D) (h : EqG X n D) : RcNG X (n + 1) (DTup X.K D) := by
  intro A pins s σ H x y u v sb I rx ry d
  obtain ⟨a, b, xs, ys, rfl, rfl, ha, hb, p⟩ := d
  cases rx
  cases ry
  obtain ⟨its, r, e, z⟩ := I.tuple ha
  obtain ⟨its2, r2, e2, z2⟩ := I.tuple hb
  have hsz : its.toArray.size = its2.toArray.size := by rw [List.size_toArray, List.size_toArray, ← r.length, ← r2.length]; exact p.1
  exact RNE.rc_tup hsz sb.room.units0 (fun _ s' => LoopI X pins σ H s') e e2 (fun i h1 h2 s' q => turnG hD h sb p r r2 i h1 h2 s' q) (fun s' q => ⟨rfl, q⟩) ⟨H, I, Ext.rfl'⟩
theorem op_neG (h : RcNG X n D) (hr : Room n X.A) : OpR X (compareOp .NotEq) (fun x y H Q => D x y H ∧ ∀ H', Ext H H' → Q (.bl false) H') := by
  intro pins s σ H x y v u Q I rx ry hq
  obtain ⟨d, q⟩ := hq
  show wpAny (model X.prog X.w) X.A (richCompare .NotEq v u) (EP X pins σ Q) X.xe s
  refine wpAny_mono (h X.A pins s σ H x y v u ⟨hr, rfl⟩ I rx ry d) (fun r s' z => ?_) fun _ _ x => x
  obtain ⟨hr', H', I', e⟩ := z
  subst hr'
  exact ⟨.bl false, H', I', rfl, q H' e⟩
/-- two Ratios that are one number -/
def Rq (K : PySem.W.Frag) : Addr → Addr → Hp → Prop := fun a b H => ∃ q, IsR K q (.ref a) H ∧ IsR K q (.ref b) H
abbrev DR' (K : PySem.W.Frag) : Eqv := DIns (cR K) (Rq K)
theorem mon_R {K : PySem.W.Frag} : Mon (DR' K) := mon_ins fun a b H H' e ⟨q, h1, h2⟩ => ⟨q, h1.kp (Kp.ofE (pa := none) e), h2.kp (Kp.ofE (pa := none) e)⟩
theorem eqG_R (T : Txt X.K X.mg) : EqG X 1 (DR' X.K) := by
  obtain ⟨fd, ps, F, kp, bd⟩ := (a_eq (P := X.prog) (w := X.w) (base := X.base) T).ex
  refine eqG_ins (F.imp (sp' := spEq (Rq X.K)) fun vs H Q E ⟨a, b, e, ⟨q, h1, h2⟩, hQ⟩ => ?_) T.o_eq T.of_eq bd (E := E0) pass0
  refine ⟨Is (.bl true), ⟨_, _, e, q, q, h1, h2, by rw [decide_eq_true rfl]⟩, fun v H' k ev => ?_⟩
  rw [show v = _ from ev]
  exact hQ H' k.ext
theorem dlist_of {K : PySem.W.Frag} {qs : List Rat} {x y : V} {H : Hp} (h1 : RL K qs x H) (h2 : RL K qs y H) : DList (DR' K) x y H := by
  obtain ⟨p, xs, e, hp, r⟩ := h1
  obtain ⟨p2, ys, e2, hp2, r2⟩ := h2
  refine ⟨p, p2, xs, ys, e, e2, hp, hp2, r.1.trans r2.1.symm, fun i x y hx hy => ?_⟩
  obtain ⟨a, dx, ea, ha⟩ := r.2 i x hx
  obtain ⟨b, dy, eb, hb⟩ := r2.2 i y hy
  exact ⟨a, b, dx, dy, _, _, ea, eb, ha, hb, _, ⟨a, dx, rfl, ha⟩, ⟨b, dy, rfl, hb⟩⟩
/-- a pair of rows -/
def RP (K : PySem.W.Frag) (r : List Rat × List Rat) : V → Hp → Prop := Tup2 (RL K r.1) (RL K r.2)
instance {K : PySem.W.Frag} {r : List Rat × List Rat} {pa : Option Addr} : Stb pa (RP K r) := inferInstanceAs (Stb pa (Tup2 _ _))
theorem dtup_of {K : PySem.W.Frag} {r : List Rat × List Rat} {x y : V} {H : Hp} (h1 : RP K r x H) (h2 : RP K r y H) : DTup K (DList (DR' K)) x y H := by
  obtain ⟨t, a, b, e, ht, ha, hb⟩ := h1
  obtain ⟨t2, a2, b2, e2, ht2, ha2, hb2⟩ := h2
  exact ⟨t, t2, _, _, e, e2, SqT.of ht, SqT.of ht2, Prs.cons (dlist_of ha ha2) (Prs.cons (dlist_of hb hb2) Prs.nil)⟩
variable {qs : List Rat} {r : List Rat × List Rat}
theorem et_eqL (T : Txt X.K X.mg) (hr : Room k X.A) (hk : 2 ≤ k) (ha : Ev pa X a σ H (RL X.K qs)) (hb : Ev pa X b σ H (RL X.K qs)) : Eb pa X (.Compare a [.Eq] [b] pos) σ H true :=
  et_cmp (op_eqG (rcG_list mon_R (eqG_R T)) (hr.mono hk)) (nomark _) ha hb fun x y H2 Q _ px py q => ⟨dlist_of px py, fun H' e => q _ H' (Kp.ofE e) rfl⟩
theorem et_neL (T : Txt X.K X.mg) (hr : Room k X.A) (hk : 2 ≤ k) (ha : Ev pa X a σ H (RL X.K qs)) (hb : Ev pa X b σ H (RL X.K qs)) : Eb pa X (.Compare a [.NotEq] [b] pos) σ H false :=
  et_cmp (op_neG (rcNG_list mon_R (eqG_R T)) (hr.mono hk)) (nomark _) ha hb fun x y H2 Q _ px py q => ⟨dlist_of px py, fun H' e => q _ H' (Kp.ofE e) rfl⟩
theorem et_eqP (T : Txt X.K X.mg) (hr : Room k X.A) (hk : 3 ≤ k) (ha : Ev pa X a σ H (RP X.K r)) (hb : Ev pa X b σ H (RP X.K r)) : Eb pa X (.Compare a [.Eq] [b] pos) σ H true :=
  et_cmp (op_eqG (rcG_tup (mon_list mon_R) (eqG_list mon_R (eqG_R T))) (hr.mono hk)) (nomark _) ha hb fun x y H2 Q _ px py q => ⟨dtup_of px py, fun H' e => q _ H' (Kp.ofE e) rfl⟩
theorem et_neP (T : Txt X.K X.mg) (hr : Room k X.A) (hk : 3 ≤ k) (ha : Ev pa X a σ H (RP X.K r)) (hb : Ev pa X b σ H (RP X.K r)) : Eb pa X (.Compare a [.NotEq] [b] pos) σ H false :=
  et_cmp (op_neG (rcNG_tup (mon_list mon_R) (eqG_list mon_R (eqG_R T))) (hr.mono hk)) (nomark _) ha hb fun x y H2 Q _ px py q => ⟨dtup_of px py, fun H' e => q _ H' (Kp.ofE e) rfl⟩
/-- as values -/
theorem ev_eqL (T : Txt X.K X.mg) (hr : Room k X.A) (hk : 2 ≤ k) (ha : Ev pa X a σ H (RL X.K qs)) (hb : Ev pa X b σ H (RL X.K qs)) : Ev pa X (.Compare a [.Eq] [b] pos) σ H (Is (.bl true)) :=
  ev_cmp (op_eqG (rcG_list mon_R (eqG_R T)) (hr.mono hk)) (nomark _) ha hb fun x y H2 Q _ px py q => ⟨dlist_of px py, fun H' e => q _ H' (Kp.ofE e) rfl⟩
theorem ev_eqP (T : Txt X.K X.mg) (hr : Room k X.A) (hk : 3 ≤ k) (ha : Ev pa X a σ H (RP X.K r)) (hb : Ev pa X b σ H (RP X.K r)) : Ev pa X (.Compare a [.Eq] [b] pos) σ H (Is (.bl true)) :=
  ev_cmp (op_eqG (rcG_tup (mon_list mon_R) (eqG_list mon_R (eqG_R T))) (hr.mono hk)) (nomark _) ha hb fun x y H2 Q _ px py q => ⟨dtup_of px py, fun H' e => q _ H' (Kp.ofE e) rfl⟩
/-- xs == [] -/
theorem op_eqNil (hu : X.A.units < cLine) : OpR X (compareOp .Eq) (fun x y H Q => ∃ a b xs, x = .ref a ∧ y = .ref b ∧ H a = some (.lst xs) ∧ H b = some (.lst []) ∧ Q (.bl (decide (xs.length = 0))) H) := by
  intro pins s σ H x y v u Q I rx ry ⟨a, b, xs, ex, ey, ha, hb, hq⟩
  subst ex
  subst ey
  cases rx
  cases ry
  show wpAny (model X.prog X.w) X.A (richCompare .Eq (.ref a) (.ref b)) (EP X pins σ Q) X.xe s
  obtain ⟨its, r, pl, hz⟩ := I.list (SqL.of ha)
  obtain ⟨its2, r2, pl2, hz2⟩ := I.list (SqL.of hb)
  have e2 : its2 = [] := by cases r2; rfl
  subst e2
  by_cases h0 : xs.length = 0
  · have e1 : its = [] := List.eq_nil_of_length_eq_zero (by rw [← r.length]; exact h0)
    subst e1
    refine SeqAt.RcAt.lists (e := fun _ => true) pl.isList pl2.isList rfl hu (fun j h1 h2 => absurd h1 (by simp)) X.prog X.w X.xe _ ⟨.bl true, H, I, rfl, ?_⟩
    rw [decide_eq_true h0] at hq
    exact hq
  · refine SeqAt.RcAt.lists_lengths pl.isList pl2.isList ?_ hu X.prog X.w X.xe _ ⟨.bl false, H, I, rfl, ?_⟩
    · have : its.length ≠ 0 := by rw [← r.length]; exact h0
      simp
      intro z
      rw [z] at this
      exact this rfl
    · rw [decide_eq_false h0] at hq
      exact hq
theorem et_eqNil {p2 : Pos} (hr : Room k X.A) (ha : Ev pa X a σ H (RL X.K qs)) : Eb pa X (.Compare a [.Eq] [.List [] p2] pos) σ H (decide (qs.length = 0)) :=
  et_cmp (op_eqNil hr.units0) (nomark _) ha ev_nil fun x y H2 Q _ ⟨p, xs, e, hp, r⟩ ⟨p2, ys, e2, _, hp2, ey⟩ q => ⟨p, p2, xs, e, e2, hp, by rw [hp2, ey], by rw [show xs.length = qs.length from r.1]; exact q _ H2 (Kp.refl _) rfl⟩
end
end RR
-- RL2
namespace RR
open PySem PySem.Spec PyProof.Rows L2
/-! ### the law's rows -/
def padQ (a : List Rat) (k : Nat) : List Rat := a ++ List.replicate k 0
theorem pad_get {a : List Rat} {k i : Nat} : (padQ a k).getD i 0 = a.getD i 0 := by
  unfold padQ
  by_cases h : i < a.length
  · rw [List.getD_eq_getElem?_getD, List.getElem?_append_left h, ← List.getD_eq_getElem?_getD]
  · rw [List.getD_eq_getElem?_getD, List.getElem?_append_right (by omega), List.getElem?_replicate, getD_ge (by omega)]
    split <;> rfl
def rowQ (c : Rat) (far : List Rat) (i : Nat) (f : List Rat) : Nat → List Rat
  | 0 => f
  | n + 1 => (rowQ c far i f n).set (i + n) ((rowQ c far i f n).getD (i + n) 0 + c * far.getD n 0)
def prodN' (a b : List Rat) : Nat → List Rat
  | 0 => List.replicate (a.length + b.length - 1) 0
  | n + 1 => rowQ (a.getD n 0) b n (prodN' a b n) b.length
def prodR (a b : List Rat) : List Rat := if a.length = 0 ∨ b.length = 0 then [] else prodN' a b a.length
theorem rowQ_len {c : Rat} {far f : List Rat} {i : Nat} : ∀ n, (rowQ c far i f n).length = f.length
  | 0 => rfl
  | n + 1 => by
    unfold rowQ
    rw [List.length_set, rowQ_len n]
theorem prodN'_len {a b : List Rat} : ∀ n, (prodN' a b n).length = a.length + b.length - 1
  | 0 => by simp [prodN']
  | n + 1 => by
    unfold prodN'
    rw [rowQ_len, prodN'_len n]
structure ProdOk (a b : List Rat) : Prop where
  sa : SzL a
  sb : SzL b
  la : a.length ≤ 100
  lb : b.length ≤ 100
  pr : ∀ n m, Sz (a.getD n 0 * b.getD m 0)
  st : ∀ n m, n < a.length → m < b.length → SzL (rowQ (a.getD n 0) b n (prodN' a b n) m)
def upL (D S : List Rat) : List Rat := sumP (prodR (trim (slopeP S)) D) (byP (prodR S (trim (slopeP D))) (half2 1))
structure UpOk (D S : List Rat) : Prop where
  sD : SzL D
  sS : SzL S
  lD : D.length ≤ 100
  lS : S.length ≤ 100
  p1 : ProdOk (trim (slopeP S)) D
  p2 : ProdOk S (trim (slopeP D))
  s1 : SzL (prodR (trim (slopeP S)) D)
  s2 : SzL (prodR S (trim (slopeP D)))
  s3 : SzL (byP (prodR S (trim (slopeP D))) (half2 1))
  i1 : ∀ i, Sz (S.getD (i + 1) 0 * (((i + 1 : Nat) : Int) : Rat))
  i2 : ∀ i, Sz (D.getD (i + 1) 0 * (((i + 1 : Nat) : Int) : Rat))
  i3 : ∀ i, Sz ((prodR S (trim (slopeP D))).getD i 0 * half2 1)
  i4 : ∀ i, Sz ((prodR (trim (slopeP S)) D).getD i 0 + (byP (prodR S (trim (slopeP D))) (half2 1)).getD i 0)
theorem prodR_len (a b : List Rat) : (prodR a b).length ≤ a.length + b.length := by
  unfold prodR
  split
  · exact Nat.zero_le _
  · rw [prodN'_len]; omega
theorem szl_mk {n : Nat} {f : Nat → Rat} (h : ∀ i, Sz (f i)) : SzL (mk n f) := fun i => by
  rw [mk_get']
  split
  · exact h i
  · exact Sz.zero
theorem rvs_cat {K : PySem.W.Frag} {a b : List Rat} {xs ys : List V} {H : Hp} (h1 : RVs K a xs H) (h2 : RVs K b ys H) : RVs K (a ++ b) (xs ++ ys) H := by
  refine ⟨by rw [List.length_append, List.length_append, h1.1, h2.1], fun i y e => ?_⟩
  have hl : xs.length = a.length := h1.1
  show IsR K ((a ++ b).getD i 0) y H
  by_cases hi : i < xs.length
  · rw [List.getElem?_append_left hi] at e
    rw [List.getD_eq_getElem?_getD, List.getElem?_append_left (by omega), ← List.getD_eq_getElem?_getD]
    exact h1.2 i y e
  · rw [List.getElem?_append_right (by omega)] at e
    rw [List.getD_eq_getElem?_getD, List.getElem?_append_right (by omega), ← List.getD_eq_getElem?_getD, ← hl]
    exact h2.2 _ y e
section
variable {X : Cx} {pa : Option Addr} {σ : L2.St} {H : Hp} {a b : Expr} {pos : Pos} {qs rs : List Rat} {Ha Hb : Hp}
/-- a + b, two rows -/
theorem ev_catR (ha : Ev pa X a σ H (RL X.K qs)) (hb : Ev pa X b σ H (RL X.K rs)) (hl : qs.length + rs.length ≤ 100000) : Ev pa X (.BinOp a .Add b pos) σ H (NL H (RVs X.K (qs ++ rs))) :=
  ev_cat ha hb fun v w H' k ⟨p, xs, e, hp, r⟩ ⟨p2, ys, e2, hp2, r2⟩ => ⟨p, p2, xs, ys, e, e2, hp, hp2, small (by rw [show xs.length = qs.length from r.1, show ys.length = rs.length from r2.1]; exact hl), fun q hq => ⟨q, _, rfl, k.free hq, upd_same, StbA.st _ _ _ (Kp.new (pa := pa) hq) (rvs_cat r r2)⟩⟩
end
section
variable {P : Program} {w : World} {K : PySem.W.Frag} {mg : Str → Option Value} {base : Heap}
theorem c_lsum (T : Txt K mg) : Cal P w K mg base "_law_sum" 7 [] (spN (P2 fun u v H Po => ∃ a b, RL K a u H ∧ RL K b v H ∧ SzL a ∧ SzL b ∧ (∀ i, Sz (a.getD i 0 + b.getD i 0)) ∧ a.length ≤ 300 ∧ b.length ≤ 300 ∧ Po = NL H (RVs K (sumP a b)))) := by
  refine (def2 (N := ["_law_one", "_law_other", "_law_size", "_law_near", "_law_far", "_law_at"]) T.f_F_law_sum "_law_one" "_law_other" fun cdv A outer s E H u v Po Q hr nd ⟨a, b, hu, hv, sa, sb, ss, la, lb, hPo⟩ hQ => ?_).named T.g__law_sum
  subst hPo
  refine ss_set (pa := none) 2 (ev_max T.n_max (ev_lenR T.n_len (ev_n 0 hu)) (ev_lenR T.n_len (ev_n 1 hv))) fun x H1 k1 e1 => ?_
  subst e1
  have em : max (a.length : Int) (b.length : Int) = ((max a.length b.length : Nat) : Int) := by omega
  rw [em]
  have e1 : ∀ n : Nat, (((max a.length b.length : Nat) : Int) - (n : Int)).toNat = max a.length b.length - n := fun n => by omega
  refine ss_tup (pa := none) (Pa := NL H (RVs K (padQ a (max a.length b.length - a.length)))) (Pb := NL H (RVs K (padQ b (max a.length b.length - b.length)))) 3 4 (ev_tup2
    ((ev_catR (ev_n 0 (hu.kp k1)) (ev_rl (ev_zeros T hr (by decide) (ev_sub (ev_v 2) (ev_lenR T.n_len (ev_n 0 (hu.kp k1)))) (by omega) (by omega))) (by rw [List.length_replicate]; omega)).imp fun v H' k h => by rw [e1] at h; exact h.back k1)
    ((ev_catR (ev_n 1 (hv.kp k1)) (ev_rl (ev_zeros T hr (by decide) (ev_sub (ev_v 2) (ev_lenR T.n_len (ev_n 1 (hv.kp k1)))) (by omega) (by omega))) (by rw [List.length_replicate]; omega)).imp fun v H' k h => by rw [e1] at h; exact h.back k1)) fun x y H2 k2 hx hy => ?_
  refine ss_ret (pa := none) (P := NL H (RVs K (sumP a b))) (ev_c1 (Pa := NL H2 (RVs K (mk (max a.length b.length) fun i => a.getD i 0 + b.getD i 0))) (c_told T) hr (by decide) ((ev_lcR (z := ((max a.length b.length : Nat) : Int)) 5 (fun i => IsR K (a.getD i 0 + b.getD i 0)) T.n_range (ev_v 2) (by omega) (by omega) potN fun n H' hn k s0 H0 C cl fp => ?_).imp fun v H' k h => nl_mk (by simpa using h))
    fun x H3 k3 hx => ⟨_, ⟨_, hx.rl.nls, szl_mk ss, by rw [mk_len]; omega, rfl⟩, fun v H4 _ h => h.back ((k1.trans k2).trans k3)⟩) fun v' H' k h => hQ v' H' ((k1.trans k2).trans k) h
  have hn : n < max a.length b.length := by omega
  have ix : ∀ c : List Rat, ixN (padQ c (max a.length b.length - c.length)).length (n : Int) = some n ∨ ¬ (c.length ≤ max a.length b.length) := fun c => by
    by_cases h : c.length ≤ max a.length b.length
    · refine .inl (ixN_nat ?_)
      unfold padQ
      rw [List.length_append, List.length_replicate]
      omega
    · exact .inr h
  have hx' : RL K (padQ a (max a.length b.length - a.length)) x H' := hx.rl.kp k
  have hy' : RL K (padQ b (max a.length b.length - b.length)) y H' := hy.rl.kp k
  refine (ev_radd (q := (padQ a (max a.length b.length - a.length)).getD n 0) (r := (padQ b (max a.length b.length - b.length)).getD n 0) T hr (by decide) (by rw [pad_get]; exact sa n) (by rw [pad_get]; exact sb n) (ev_ixR (ev_n 3 hx') (ev_v 5) n ((ix a).resolve_right (by omega))) (ev_num (ev_ixR (ev_n 4 hy') (ev_v 5) n ((ix b).resolve_right (by omega))))).imp fun v H'' _ h => ?_
  rw [pad_get, pad_get] at h
  exact h
theorem c_lby (T : Txt K mg) : Cal P w K mg base "_law_by" 7 [] (spN (P2 fun u v H Po => ∃ a r, RL K a u H ∧ Num K r v H ∧ SzL a ∧ Sz r ∧ (∀ i, Sz (a.getD i 0 * r)) ∧ a.length ≤ 400 ∧ Po = NL H (RVs K (byP a r)))) := by
  refine (def2 (N := ["_law_one", "_law_number", "_law_entry"]) T.f_F_law_by "_law_one" "_law_number" fun cdv A outer s E H u v Po Q hr nd ⟨a, r, hu, hv, sa, sr, sp, la, hPo⟩ hQ => ?_).named T.g__law_by
  subst hPo
  refine ss_ret (pa := none) (P := NL H (RVs K (byP a r))) (ev_c1 (c_told T) hr (by decide) (ev_lcQ (qs := a) 2 (fun i => IsR K (a.getD i 0 * r)) (ev_n 0 hu) potN (by omega) fun n y H' hn hy k s0 H0 C cl fp => ?_) fun x H2 k2 h => ?_) hQ
  · exact ev_rmul T hr (by decide) (sa n) sr (ev_n (P := IsR K (a.getD n 0)) 2 hy) (ev_n (P := Num K r) 1 (Stb.st (pa := none) _ _ _ k hv))
  · have h2 := nl_mk h
    exact ⟨_, ⟨_, h2.rl.nls, szl_mk sp, by rw [mk_len]; omega, rfl⟩, fun v H3 _ h => h.back k2⟩
theorem c_lslope (T : Txt K mg) : Cal P w K mg base "_law_slope" 7 [] (spN (P1 fun u H Po => ∃ a, RL K a u H ∧ SzL a ∧ (∀ i, Sz (a.getD (i + 1) 0 * (((i + 1 : Nat) : Int) : Rat))) ∧ a.length ≤ 400 ∧ Po = NL H (RVs K (trim (slopeP a))))) := by
  refine (def1 (N := ["_law_one", "_law_at"]) T.f_F_law_slope "_law_one" fun cdv A outer s E H u Po Q hr nd ⟨a, hu, sa, si, la, hPo⟩ hQ => ?_).named T.g__law_slope
  subst hPo
  refine ss_ret (pa := none) (P := NL H (RVs K (trim (slopeP a)))) (ev_c1 (Pa := NL H (RVs K (slopeP a))) (c_told T) hr (by decide) ((ev_lcR2 (lo := 1) (hi := a.length) 1 (fun i => IsR K (a.getD (i + 1) 0 * (((i + 1 : Nat) : Int) : Rat))) T.n_range ev_int (ev_lenR T.n_len (ev_n 0 hu)) (by omega) (by omega) potN fun n H' hn k s0 H0 C cl fp => ?_).imp fun v H' k h => ?_) fun x H2 k2 hx => ⟨_, ⟨_, hx.rl.nls, szl_mk si, by unfold slopeP; rw [mk_len]; omega, rfl⟩, fun v H3 _ h => h.back k2⟩) hQ
  · have e : (1 : Int) + (n : Int) = ((n + 1 : Nat) : Int) := by omega
    exact ev_rmul T hr (by decide) (sa _) (Sz.nat (Nat.lt_trans (show n + 1 < 1000 by omega) (by decide))) (ev_ixR (ev_n 0 (hu.kp k)) (ev_v 1) (n + 1) (by rw [e]; exact ixN_nat (by omega))) (ev_numI (by rw [← e]; exact ev_v 1))
  · have h2 := nl_mk h
    unfold slopeP
    rw [show a.length - 1 = ((a.length : Int) - 1).toNat by omega]
    exact h2
theorem c_lproduct (T : Txt K mg) : Cal P w K mg base "_law_product" 6 [] (spN (P2 fun u v H Po => ∃ a b, RL K a u H ∧ RL K b v H ∧ ProdOk a b ∧ Po = NL H (RVs K (prodR a b)))) := by
  refine (def2 (N := ["_law_one", "_law_other", "_law_found", "_law_at", "_law_near", "_law_to", "_law_far"]) T.f_F_law_product "_law_one" "_law_other" fun cdv A outer s E H u v Po Q hr nd ⟨a, b, hu, hv, ok, hPo⟩ hQ => ?_).named T.g__law_product
  subst hPo
  have la := ok.la
  have lb := ok.lb
  refine ss_ifb (pa := none) (k := decide (a.length = 0) || decide (b.length = 0)) (ew_or2 (et_eqNil hr (ev_n 0 hu)) fun _ => ew_or1 (et_eqNil hr (ev_n 1 hv))).et (fun h0 H1 k1 => ?_) (fun h0 H1 k1 => ss_nil ?_)
  · have e : prodR a b = [] := by
      unfold prodR
      rw [if_pos (by simpa using h0)]
    rw [e] at hQ
    exact ss_ret (pa := none) ev_nil fun v' H' k ⟨p, xs, e, n, hp, ex⟩ => hQ v' H' (k1.trans k) ⟨p, xs, e, k1.free n, hp, by rw [ex]; exact ⟨rfl, fun i y e => by simp at e⟩⟩
  have h0' : ¬ (a.length = 0 ∨ b.length = 0) := by simpa using h0
  have ha : 1 ≤ a.length := by omega
  have hb : 1 ≤ b.length := by omega
  have e : prodR a b = prodN' a b a.length := by
    unfold prodR
    rw [if_neg h0']
  rw [e] at hQ
  refine ss_set (pa := none) 2 (ev_zeros T hr (by decide) (ev_sub (ev_add (ev_lenR T.n_len (ev_n 0 (hu.kp k1))) (ev_lenR T.n_len (ev_n 1 (hv.kp k1)))) ev_int) (by omega) (by omega)) fun x H2 k2 hx => ?_
  rw [show (((a.length : Int) + b.length) - 1).toNat = a.length + b.length - 1 by omega] at hx
  obtain ⟨p, fs, rfl, hp0, hp2, rv2⟩ := hx
  have k12 := k1.trans k2
  have hpH : H p = none := k1.free hp0
  obtain ⟨pu, xs, rfl, hu0, rvu⟩ := id hu
  obtain ⟨pv, ys, rfl, hv0, rvv⟩ := id hv
  refine ss_forE (pa := none) 3 4 xs (fun q n σ H' => q = pu ∧ Kp none H H' ∧ (∃ fs, H' p = some (.lst fs) ∧ RVs K (prodN' a b n) fs H') ∧ ∃ o1 o2 o3 o4, σ = [some (V.ref pu), some (V.ref pv), some (V.ref p), o1, o2, o3, o4]) T.n_enumerate (ev_v 0)
    (fun z H' k e => ⟨pu, e, rfl, k12.trans k, ⟨fs, k.get0 hp2, StbA.st _ _ _ k rv2⟩, _, _, _, _, rfl⟩) (fun q n σ' H' _ ⟨e, k, _⟩ => by subst e; exact SqL.of (k.get0 hu0)) (fun q n y σ' H3 H4 hy ⟨eu, k3, ⟨fs, hp3, rv3⟩, o1, o2, o3, o4, hσ⟩ k4 => ?_) (fun q σ' H3 ⟨e, k3, ⟨fs, hp3, rv3⟩, o1, o2, o3, o4, hσ⟩ => ?_)
  · subst hσ
    have hn : n < a.length := by rw [← rvu.1]; exact (List.getElem?_eq_some_iff.mp hy).1
    have k34 := k3.trans k4
    refine ss_forE (pa := none) 5 6 ys (fun q m σ H' => q = pv ∧ Kp none H H' ∧ (∃ fs, H' p = some (.lst fs) ∧ RVs K (rowQ (a.getD n 0) b n (prodN' a b n) m) fs H') ∧ ∃ o3 o4, σ = [some (V.ref pu), some (V.ref pv), some (V.ref p), some (V.int (n : Nat)), some y, o3, o4]) T.n_enumerate (ev_v 1)
      (fun z H' k e => ⟨pv, e, rfl, k34.trans k, ⟨fs, (k4.trans k).get0 hp3, StbA.st _ _ _ (k4.trans k) rv3⟩, _, _, rfl⟩) (fun q n σ' H' _ ⟨e, k, _⟩ => by subst e; exact SqL.of (k.get0 hv0)) (fun q m z σ' H5 H6 hz ⟨e, k5, ⟨fs, hp5, rv5⟩, o3, o4, hσ⟩ k6 => ?_) (fun q σ' H5 ⟨e, k5, ⟨fs, hp5, rv5⟩, o3, o4, hσ⟩ => ?_)
    · subst hσ
      have hm : m < b.length := by rw [← rvv.1]; exact (List.getElem?_eq_some_iff.mp hz).1
      have k56 := k5.trans k6
      have hl : n + m < (rowQ (a.getD n 0) b n (prodN' a b n) m).length := by rw [rowQ_len, prodN'_len]; omega
      have hix : ixN (rowQ (a.getD n 0) b n (prodN' a b n) m).length ((n : Int) + (m : Int)) = some (n + m) := by
        rw [show ((n : Int) + (m : Int)) = ((n + m : Nat) : Int) by omega]
        exact ixN_nat hl
      have hf6 : RL K (rowQ (a.getD n 0) b n (prodN' a b n) m) (V.ref p) H6 := ⟨p, fs, rfl, k6.get0 hp5, StbA.st _ _ _ k6 rv5⟩
      have hy6 : IsR K (a.getD n 0) y H6 := Stb.st (pa := none) _ _ _ k56 (rvu.2 n y hy)
      have hz6 : IsR K (b.getD m 0) z H6 := Stb.st (pa := none) _ _ _ k56 (rvv.2 m z hz)
      refine ss_sub (pa := none) (ev_radd T hr (by decide) (ok.st n m hn hm (n + m)) (ok.pr n m) (ev_ixR (ev_n 2 hf6) (ev_add (ev_v 3) (ev_v 5)) (n + m) hix) (ev_num (ev_rmul T hr (by decide) (ok.sa n) (ok.sb m) (ev_n (P := IsR K (a.getD n 0)) 4 hy6) (ev_num (ev_n (P := IsR K (b.getD m 0)) 6 hz6))))) (ev_v 2) (ev_add (ev_v 3) (ev_v 5)) fun v' x' y' H7 k7 e1 e2 e3 => ?_
      subst e2
      subst e3
      have hp7 := k7.get0 (k6.get0 hp5)
      refine ⟨p, fs, _, n + m, rfl, rfl, hp7, by rw [show fs.length = _ from rv5.1]; exact hix, ss_nil ⟨e, (k56.trans k7).mut hpH, ⟨_, upd_same, ?_⟩, _, _, rfl⟩⟩
      exact rvs_fr hp7 (rvs_set (StbA.st (pa := none) _ _ _ (k6.trans k7) rv5) e1)
    · subst hσ
      rw [show ys.length = b.length from rvv.1] at rv5
      exact ss_nil ⟨eu, k5, ⟨fs, hp5, rv5⟩, _, _, _, _, rfl⟩
  · subst hσ
    rw [show xs.length = a.length from rvu.1] at rv3
    exact ss_ret (pa := none) (P := NL H (RVs K (prodN' a b a.length))) ((ev_v 2).imp fun v' H' k e => ⟨p, fs, e, hpH, k.get0 hp3, StbA.st _ _ _ k rv3⟩) fun v' H' k h => hQ v' H' (k3.trans k) h
theorem c_lup (T : Txt K mg) : Cal P w K mg base "_law_up" 8 [] (spN (P2 fun u v H Po => ∃ D S, RL K D u H ∧ RL K S v H ∧ UpOk D S ∧ Po = NL H (RVs K (upL D S)))) := by
  refine (def2 (N := ["_law_root_poly", "_law_first", "_law_whole"]) T.f_F_law_up "_law_root_poly" "_law_first" fun cdv A outer s E H u v Po Q hr nd ⟨D, S, hu, hv, ok, hPo⟩ hQ => ?_).named T.g__law_up
  subst hPo
  have lD := ok.lD
  have lS := ok.lS
  have t1 := trim_le (slopeP S)
  have t2 := trim_le (slopeP D)
  have t3 := prodR_len (trim (slopeP S)) D
  have t4 := prodR_len S (trim (slopeP D))
  have m1 : (slopeP S).length = S.length - 1 := by unfold slopeP; rw [mk_len]
  have m2 : (slopeP D).length = D.length - 1 := by unfold slopeP; rw [mk_len]
  refine ss_set (pa := none) 2 (P := NL H (RVs K (prodR (trim (slopeP S)) D))) (ev_c2 (Pa := NL H (RVs K (trim (slopeP S)))) (c_lproduct T) hr (by decide) (ev_c1 (c_lslope T) hr (by decide) (ev_n 1 hv) fun x H1 k1 hx => ⟨_, ⟨S, hx, ok.sS, ok.i1, by omega, rfl⟩, fun v H2 _ h => h.back k1⟩) (ev_n 0 hu) fun x y H1 k1 hx hy => ⟨_, ⟨_, _, hx.rl, hy, ok.p1, rfl⟩, fun v H2 _ h => h.back k1⟩) fun x H1 k1 hx => ?_
  have hu1 := hu.kp k1
  have hv1 := hv.kp k1
  refine ss_ret (pa := none) (P := NL H (RVs K (upL D S))) (ev_c2 (Pb := NL H1 (RVs K (byP (prodR S (trim (slopeP D))) (half2 1)))) (c_lsum T) hr (by decide) (ev_n 2 hx)
    (ev_c2 (Pa := NL H1 (RVs K (prodR S (trim (slopeP D))))) (c_lby T) hr (by decide) (ev_c2 (Pb := NL H1 (RVs K (trim (slopeP D)))) (c_lproduct T) hr (by decide) (ev_n 1 hv1) (ev_c1 (c_lslope T) hr (by decide) (ev_n 0 hu1) fun x H2 k2 hx => ⟨_, ⟨D, hx, ok.sD, ok.i2, by omega, rfl⟩, fun v H3 _ h => h.back k2⟩) fun x y H2 k2 hx hy => ⟨_, ⟨_, _, hx, hy.rl, ok.p2, rfl⟩, fun v H3 _ h => h.back k2⟩)
      (ev_rat2 (i := 1) (j := 2) T hr (by decide) (by decide) ev_int ev_int) fun x y H2 k2 hx hy => ⟨_, ⟨_, half2 1, hx.rl, .inl hy, ok.s2, half2_sz (by decide), ok.i3, by omega, rfl⟩, fun v H3 _ h => h.back k2⟩)
    fun x y H2 k2 hx hy => ⟨_, ⟨_, _, hx.rl, hy.rl, ok.s1, ok.s3, ok.i4, by omega, ?_, rfl⟩, fun v H3 _ h => h.back (k1.trans k2)⟩) fun v' H' k h => hQ v' H' (k1.trans k) h
  refine Nat.le_trans (trim_le _) ?_
  rw [mk_len]
  omega
end
end RR
-- RL3
namespace RR
open PySem PySem.Spec PyProof.Rows L2
/-- the row that one step adds up from -/
def oneQ (m : Nat) (q : Rat) : List Rat := List.replicate m 0 ++ [q]
structure LStepOk (D : List Rat) (m : Nat) (l : List Rat) : Prop where
  sl : SzL l
  h1 : Sz (half2 (nD D) + ((m : Int) : Rat))
  h2 : leadQ D * (half2 (nD D) + ((m : Int) : Rat)) = Lq D m
  L : Sz (Lq D m)
  L0 : Lq D m ≠ 0
  q : Sz (stepQ D m l)
  up : UpOk D (oneQ m (stepQ D m l))
  su : SzL (upL D (oneQ m (stepQ D m l)))
  pu : ∀ i, Sz ((upL D (oneQ m (stepQ D m l))).getD i 0 * ((-1 : Int) : Rat))
  sb : SzL (byP (upL D (oneQ m (stepQ D m l))) ((-1 : Int) : Rat))
  ss : ∀ i, Sz (l.getD i 0 + (byP (upL D (oneQ m (stepQ D m l))) ((-1 : Int) : Rat)).getD i 0)
  ul : (upL D (oneQ m (stepQ D m l))).length ≤ 300
  eq : sumP l (byP (upL D (oneQ m (stepQ D m l))) ((-1 : Int) : Rat)) = stepL D m l
  sh : (stepL D m l).length < nD D + m
def LawTOk (D : List Rat) : Nat → List Rat → Prop
  | 0, _ => True
  | m + 1, l => (l.length = nD D + m → LStepOk D m l ∧ LawTOk D m (stepL D m l)) ∧ (l.length ≠ nD D + m → LawTOk D m l)
structure LTakOk (D P : List Rat) : Prop where
  d : SzL D
  ld : 3 ≤ D.length ∧ D.length ≤ 20
  p : SzL P
  lp : P.length ≤ 30
  law : LawTOk D (cnt D P) P
theorem set_getD {f : List Rat} {c : Nat} {q : Rat} (h : c < f.length) : (f.set c q).getD c 0 = q := by
  rw [List.getD_eq_getElem?_getD, List.getElem?_set_self h]
  rfl
section
variable {P : Program} {w : World} {K : PySem.W.Frag} {mg : Str → Option Value} {base : Heap}
theorem takenF_sz {D : List Rat} : ∀ {m : Nat} {f l : List Rat}, SzL f → LawTOk D m l → SzL (lawF D m f l).1
  | 0, f, l, h, _ => h
  | m + 1, f, l, h, ok => by
    unfold lawF
    split
    · rename_i e
      obtain ⟨s, ok⟩ := ok.1 e
      refine takenF_sz (fun i => ?_) ok
      by_cases hi : m = i
      · subst hi
        by_cases hm : m < f.length
        · rw [set_getD hm]; exact s.q
        · rw [getD_ge (by rw [List.length_set]; omega)]; exact Sz.zero
      · rw [List.getD_eq_getElem?_getD, List.getElem?_set_ne hi, ← List.getD_eq_getElem?_getD]
        exact h i
    · rename_i e
      exact takenF_sz h (ok.2 e)
theorem szl_rep (n : Nat) : SzL (List.replicate n 0) := fun i => by
  rw [List.getD_eq_getElem?_getD, List.getElem?_replicate]
  split <;> exact Sz.zero
theorem c_ltaken (T : Txt K mg) : Cal P w K mg base "_law_taken" 9 [] (spN (P2 fun u v H Po => ∃ D a, RL K D u H ∧ RL K a v H ∧ LTakOk D a ∧ Po = TkPo K H (takenF D a))) := by
  refine (def2 (N := ["_law_root_poly", "_law_poly_here", "_law_left", "_law_many", "_law_found", "_law_place"]) T.f_F_law_taken "_law_root_poly" "_law_poly_here" fun cdv A outer s E H u v Po Q hr nd ⟨D, a, hu, hv, ok, hPo⟩ hQ => ?_).named T.g__law_taken
  subst hPo
  obtain ⟨d3, d20⟩ := ok.ld
  have lp := ok.lp
  have hnD : nD D = D.length - 1 := rfl
  refine ss_par (pa := none) (Pa := NL H (RVs K a)) (Pb := Is (.int ((D.length : Int) - 2))) 2 3 (eva2 (ev_listOf T.n_list (ev_n 1 hv) fun v' H' k ⟨p, xs, e, hp, r⟩ => ⟨p, xs, e, .inl (SqL.of hp), fun q hq => ⟨q, xs, rfl, k.free hq, upd_same, StbA.st _ _ _ (Kp.new (pa := none) hq) r⟩⟩) (ev_sub (ev_lenR T.n_len (ev_n 0 hu)) ev_int)) fun x y H1 k1 hy e1 => ?_
  subst e1
  obtain ⟨py, ys, rfl, hy0, hy1, rvy⟩ := hy
  have hcnt : (max (0 : Int) ((a.length : Int) - 1 - ((D.length : Int) - 2) + 1)).toNat = cnt D a := by unfold cnt; omega
  refine ss_set (pa := none) 4 (ev_zeros T hr (by decide) (ev_max T.n_max ev_int (ev_add (ev_sub (ev_sub (ev_lenR T.n_len (ev_n 1 (hv.kp k1))) ev_int) (ev_v 3)) ev_int)) (by omega) (by omega)) fun x H2 k2 hx => ?_
  rw [hcnt] at hx
  obtain ⟨pf, fs, rfl, hf0, hf1, rvf⟩ := hx
  have hne : py ≠ pf := fun z => by rw [z, hf0] at hy1; cases hy1
  have k12 := k1.trans k2
  have hpfH : H pf = none := k1.free hf0
  have hC : cnt D a ≤ 40 := by unfold cnt; omega
  have hfl : RL K (List.replicate (cnt D a) 0) (.ref pf) H2 := ⟨pf, fs, rfl, hf1, rvf⟩
  refine ss_forDown (pa := none) (hpi := fun h => pi_range3 rfl T.n_range h) (lo := ((cnt D a : Nat) : Int) - 1) (hi := -1) 5 (fun n σ H' => ∃ m f l py ys fs o5, n + m = cnt D a ∧ lawF D m f l = takenF D a ∧ LawTOk D m l ∧ SzL f ∧ f.length = cnt D a ∧ l.length ≤ 30 ∧ Kp none H H' ∧ py ≠ pf ∧ H py = none ∧ H' py = some (.lst ys) ∧ RVs K l ys H' ∧ H' pf = some (.lst fs) ∧ RVs K f fs H' ∧
    σ = [some u, some v, some (V.ref py), some (V.int ((D.length : Int) - 2)), some (V.ref pf), o5]) T.n_range ((ev_sub (ev_lenR T.n_len (ev_n 4 hfl)) ev_int).imp fun v' H' k e => by rw [show v' = _ from e, List.length_replicate]; rfl) (ev_neg ev_int) (ev_neg ev_int) (by omega)
    (fun H' k => ⟨cnt D a, List.replicate (cnt D a) 0, a, py, ys, fs, _, Nat.zero_add _, rfl, ok.law, szl_rep _, List.length_replicate, lp, k12.trans k, hne, hy0, (k2.trans k).get0 hy1, StbA.st _ _ _ (k2.trans k) rvy, k.get0 hf1, StbA.st _ _ _ k rvf, rfl⟩)
    (fun n σ' H3 hn ⟨m, f, l, py, ys, fs, o5, hnm, hF, hok, sf, hfl, hl30, k3, hne, hpy0, hpy, rvl, hpf, rvf, hσ⟩ => ?_) (fun σ' H3 ⟨m, f, l, py, ys, fs, o5, hnm, hF, hok, sf, hfl, hl30, k3, hne, hpy0, hpy, rvl, hpf, rvf, hσ⟩ => ?_)
  · subst hσ
    have hn : n < cnt D a := by omega
    obtain ⟨c, rfl⟩ : ∃ c, m = c + 1 := ⟨m - 1, by omega⟩
    have ep : ((cnt D a : Nat) : Int) - 1 + (n : Int) * (-1) = ((c : Nat) : Int) := by omega
    rw [ep]
    have hl3 : RL K l (.ref py) H3 := ⟨py, ys, rfl, hpy, rvl⟩
    have hu3 : RL K D u H3 := hu.kp k3
    refine ss_ifb (pa := none) (k := decide (l.length = nD D + c)) (et_eqI (ev_sub (ev_lenR T.n_len (ev_n 2 hl3)) ev_int) (ev_add (ev_v 3) (ev_v 5)) (decide_eq_decide.mpr (by omega))) (fun h0 H4 k4 => ?_) (fun h0 H4 k4 => ?_)
    · have hc : l.length = nD D + c := of_decide_eq_true h0
      obtain ⟨so, hok⟩ := hok.1 hc
      unfold lawF at hF
      rw [if_pos hc] at hF
      have hl4 : RL K l (.ref py) H4 := hl3.kp k4
      have hu4 : RL K D u H4 := hu3.kp k4
      have hfs : fs.length = f.length := rvf.1
      have hix : ixN fs.length ((c : Nat) : Int) = some c := by rw [hfs]; exact ixN_nat (by omega)
      refine ss_sub (pa := none) (P := IsR K (stepQ D c l)) (ev_over T hr (by decide) (so.sl _) so.L so.L0 (ev_ixR (ev_n 2 hl4) (ev_neg ev_int) (l.length - 1) (ixN_last (by omega))) (ev_num ((ev_rmul (q := leadQ D) (r := half2 (nD D) + ((c : Int) : Rat)) T hr (by decide) (ok.d _) so.h1 (ev_ixR (ev_n 0 hu4) (ev_neg ev_int) (D.length - 1) (ixN_last (by omega)))
        (ev_num (ev_radd T hr (by decide) (half2_sz (Nat.lt_trans (show nD D < 1000 by omega) (by decide))) (Sz.nat (Nat.lt_trans (show c < 1000 by omega) (by decide))) (ev_half2 (n := nD D) T hr (by decide) ?_) (ev_numI (ev_v 5))))).imp fun v' H' k h => by rw [so.h2] at h; exact h))) (ev_v 4) (ev_v 5) fun nv x' y' H7 k7 hnv e2 e3 => ?_
      · rw [show ((nD D : Nat) : Int) = (D.length : Int) - 2 + 1 by omega]
        exact ev_add (ev_v 3) ev_int
      subst e2
      subst e3
      have hpf7 := (k4.trans k7).get0 hpf
      have rvf7 : RVs K f fs H7 := StbA.st (pa := none) _ _ _ (k4.trans k7) rvf
      refine ⟨pf, fs, _, c, rfl, rfl, hpf7, hix, ?_⟩
      obtain ⟨hpy8, rvl8⟩ := rl_fr (ws := fs.set c nv) ((k4.trans k7).get0 hpy) (StbA.st (pa := none) _ _ _ (k4.trans k7) rvl) hpf7 hne
      have rvf8 : RVs K (f.set c (stepQ D c l)) (fs.set c nv) (upd H7 pf (.lst (fs.set c nv))) := rvs_fr hpf7 (rvs_set rvf7 hnv)
      have k38 : Kp none H (upd H7 pf (.lst (fs.set c nv))) := ((k3.trans k4).trans k7).mut hpfH
      have hpf8 : upd H7 pf (.lst (fs.set c nv)) pf = some (.lst (fs.set c nv)) := upd_same
      generalize upd H7 pf (.lst (fs.set c nv)) = H8 at hpy8 rvl8 rvf8 k38 hpf8 ⊢
      have hu8 : RL K D u H8 := hu.kp k38
      have hl8 : RL K l (.ref py) H8 := ⟨py, ys, rfl, hpy8, rvl8⟩
      have hf8 : RL K (f.set c (stepQ D c l)) (.ref pf) H8 := ⟨pf, _, rfl, hpf8, rvf8⟩
      refine ss_set (pa := none) 2 (P := NL H8 (RVs K (stepL D c l))) (ev_c2 (Pb := NL H8 (RVs K (byP (upL D (oneQ c (stepQ D c l))) ((-1 : Int) : Rat)))) (c_lsum T) hr (by decide) (ev_n 2 hl8)
        (ev_c2 (Pa := NL H8 (RVs K (upL D (oneQ c (stepQ D c l))))) (c_lby T) hr (by decide)
          (ev_c2 (Pb := NL H8 (RVs K (oneQ c (stepQ D c l)))) (c_lup T) hr (by decide) (ev_n 0 hu8)
            ((ev_catR (qs := List.replicate c 0) (rs := [stepQ D c l]) ((ev_zeros T hr (by decide) (ev_v 5) (by omega) (by omega)).imp fun v' H' k h => by rw [Int.toNat_natCast] at h; exact h.rl)
              ((ev_list (ea (ev_ixR (ev_n 4 hf8) (ev_v 5) c (ixN_nat (by rw [List.length_set]; omega))) ea0) fun vs H' _ ⟨_, _, e, _, e2⟩ => by rw [e, show _ = [] from e2]; exact small (by show 1 ≤ 100000; decide)).imp fun v' H' k ⟨p, xs, e, n, hp, y, r', e2, py, er⟩ => ⟨p, xs, e, hp, by
                rw [e2, show r' = [] from er]
                refine rvs_one ?_
                rw [set_getD (by omega)] at py
                exact py⟩) (by rw [List.length_replicate]; show c + 1 ≤ 100000; omega)))
            fun x y H9 k9 hx hy => ⟨_, ⟨D, _, hx, hy.rl, so.up, rfl⟩, fun v H10 _ h => h.back k9⟩) (ev_neg ev_int)
          fun x y H9 k9 hx hy => ⟨_, ⟨_, _, hx.rl, .inr ⟨_, hy, rfl⟩, so.su, Sz.int (by decide), so.pu, by have := so.ul; omega, rfl⟩, fun v H10 _ h => h.back k9⟩)
        fun x y H9 k9 hx hy => ⟨_, ⟨_, _, hx, hy.rl, so.sl, so.sb, so.ss, by omega, ?_, rfl⟩, fun v H10 _ h => by rw [so.eq] at h; exact h.back k9⟩) fun x H9 k9 hx => ss_nil (ss_nil ?_)
      · refine Nat.le_trans (trim_le _) ?_
        rw [mk_len]
        exact so.ul
      · obtain ⟨p9, y9, rfl, n9, hp9, rv9⟩ := hx
        have h9 : p9 ≠ pf := fun z => by rw [z, hpf8] at n9; cases n9
        refine ⟨c, f.set c (stepQ D c l), stepL D c l, p9, y9, _, _, by omega, hF, hok, fun i => ?_, by rw [List.length_set]; exact hfl, by have := so.sh; omega, k38.trans k9, h9, k38.free n9, hp9, rv9, k9.get0 hpf8, StbA.st _ _ _ k9 rvf8, rfl⟩
        by_cases hi : c = i
        · subst hi
          rw [set_getD (by omega)]
          exact so.q
        · rw [List.getD_eq_getElem?_getD, List.getElem?_set_ne hi, ← List.getD_eq_getElem?_getD]
          exact sf i
    · have hc : l.length ≠ nD D + c := of_decide_eq_false h0
      unfold lawF at hF
      rw [if_neg hc] at hF
      exact ss_nil (ss_nil ⟨c, f, l, py, ys, fs, _, by omega, hF, hok.2 hc, sf, hfl, hl30, k3.trans k4, hne, hpy0, k4.get0 hpy, StbA.st _ _ _ k4 rvl, k4.get0 hpf, StbA.st _ _ _ k4 rvf, rfl⟩)
  · subst hσ
    have hm : m = 0 := by omega
    subst hm
    have hF : (f, l) = takenF D a := hF
    have hf4 : RL K f (.ref pf) H3 := ⟨pf, fs, rfl, hpf, rvf⟩
    refine ss_ret (pa := none) (P := TkPo K H (f, l)) (ev_tup2 (ev_c1 (c_told T) hr (by decide) (ev_n 4 hf4) fun x H5 k5 hx => ⟨_, ⟨f, hx.nls, sf, by omega, rfl⟩, fun v H6 _ h => h.back (k3.trans k5)⟩) (ev_n (P := NL H (RVs K l)) 2 ⟨py, ys, rfl, hpy0, hpy, rvl⟩)) fun v' H' k h => hQ v' H' (k3.trans k) (by rw [← hF]; exact h)
end
end RR
-- RP1
namespace RR
open PySem PySem.Spec PyProof.Rows L2
/-! ### the pot, draws -/
theorem Kp.potSet {a : Addr} {H : Hp} {o o' : HO} (h : H a = some o) (p : isPot o) (p' : isPot o') : Kp (some a) H (upd H a o') := fun c u e => by
  by_cases hc : c = a
  · subst hc
    rw [h] at e
    cases e
    exact .inr ⟨rfl, p, o', upd_same, p'⟩
  · exact .inl (by rw [upd_ne hc]; exact e)
theorem pot_at {a : Addr} {H : Hp} (h : PotOk (some a) H) : ∃ x y : Int, H a = some (.lst [.int x, .int y]) ∧ 0 ≤ x ∧ 0 ≤ y ∧ y ≤ 2147483549 := by
  obtain ⟨o, ho, p⟩ := h a rfl
  unfold isPot at p
  split at p
  · rename_i x y
    exact ⟨x, y, ho, p⟩
  · exact p.elim
section
variable {X : Cx} {pa : Option Addr} {σ : L2.St} {H H' : Hp} {e a b c : Expr} {es : List Expr} {pos p : Pos} {P P' Pa Pb : V → Hp → Prop} {i j : Int} {sts rest : List Stmt} {D : Ends}
theorem ev_pow (hc : CPow i j) (ha : Ev pa X a σ H (Is (.int i))) (hb : Ev pa X b σ H (Is (.int j))) : Ev pa X (.BinOp a .Pow b pos) σ H (Is (.int (i ^ j.toNat))) :=
  ev_bin op_pow ha hb fun x y H2 Q _ px py q => ⟨i, j, px, py, hc, q _ H2 (Kp.refl _) rfl⟩
/-- divmod(a, b) -/
theorem ev_divmod {p : Pos} (hm : X.mg "divmod" = none) (hc : CDiv i j) (ha : Ev pa X a σ H (Is (.int i))) (hb : Ev pa X b σ H (Is (.int j))) (hg : Gl X "divmod" := by rfl) (he : starEach [a, b] X.env = (false, eval a X.env) :: starEach [b] X.env := by rfl)
    (he2 : starEach [b] X.env = (false, eval b X.env) :: starEach [] X.env := by rfl) (hpl : (backTo pos (starEach [b] X.env)).any (·.1) = false := by rfl) : Ev pa X (.Call (.Name "divmod" p) [a, b] [] pos) σ H (Tup2 (Is (.int (i / j))) (Is (.int (i % j)))) :=
  ev_blt1 call_divmod (by decide +kernel) hm (ea ha (ea1 hb he2) he) (fun vs H1 Q k ⟨v, r, e, p, w, r2, e2, p2, er⟩ q => by
    obtain rfl : r2 = [] := er
    obtain rfl : v = .int i := p
    obtain rfl : w = .int j := p2
    exact ⟨i, j, by rw [e, e2], hc, fun z hz => q _ _ (Kp.new hz) ⟨z, _, _, rfl, upd_same, rfl, rfl⟩⟩) hg (by decide) (by decide) he hpl
/-- xs[i], y = e, the value a pair -/
theorem ss_subTup (j : Nat) {o i : Expr} {y : Str} {q py pt : Pos} {kt} (hv : Ev pa X e σ H (Tup2 P P')) (ho : Ev pa X o σ H Pa) (hi : Ev pa X i σ H Pb) [S1 : Stb pa P] [S3 : Stb pa P'] [S2 : Stb pa Pa]
    (k : ∀ v w x y H', Kp pa H H' → P v H' → P' w H' → Pa x H' → Pb y H' → ∃ l xs z j', x = .ref l ∧ y = .int z ∧ H' l = some (.lst xs) ∧ ixN xs.length z = some j' ∧ Ss X rest (σ.set j (some w)) (upd H' l (.lst (xs.set j' v))) D)
    (hN : X.N.Nodup := by assumption) (hj : X.N[j]? = some y := by rfl) (hy : Loc X.env.scope y := by first | exact Or.inl rfl | exact Or.inr rfl) (hc : X.calm = true := by rfl)
    (hfy : X.fn y = true ∨ X.env.scope.names.lookup y = some .local := by first | exact .inl rfl | exact .inr rfl | assumption)
    (ha : ∀ v, assign (.Subscript o i q) X.env v = (do
      let ov ← holding [v] (eval o X.env)
      let iv ← holding [v, ov] (eval i X.env)
      standAt q
      holding [v, ov, iv] (setItem ov iv v)
      release [v, ov, iv] []) := by intro _; rfl)
    (hs : swapsWithSole [.Tuple [.Subscript o i q, .Name y py] kt pt] e pos.line X.env = pure false := by rfl) (hw : swappedStores [.Tuple [.Subscript o i q, .Name y py] kt pt] e X.env = pure none := by rfl)
    (h1 : (assignEach [.Tuple [.Subscript o i q, .Name y py] kt pt] X.env).map (·.2) = [assign (.Tuple [.Subscript o i q, .Name y py] kt pt) X.env] := by rfl)
    (hn : (assignEach [.Subscript o i q, .Name y py] X.env).length = 2 := by rfl) (hst : (assignEach [.Subscript o i q, .Name y py] X.env).findIdx? (·.1) = none := by rfl)
    (hs1 : (assignEach [.Subscript o i q, .Name y py] X.env).map (·.2) = assign (.Subscript o i q) X.env :: (assignEach [.Name y py] X.env).map (·.2) := by rfl)
    (hs2 : (assignEach [.Name y py] X.env).map (·.2) = assign (.Name y py) X.env :: (assignEach [] X.env).map (·.2) := by rfl) :
    Ss X (.Assign [.Tuple [.Subscript o i q, .Name y py] kt pt] e pos :: rest) σ H D :=
  ss_cons (ps_asg hv (pg_tup hc (pgs_cons (pg_sub ho hi set_list ha) (pgs_cons (pg_name hN hj hy hfy) pgs_nil hs2) hs1) hn hst) hs hw h1)
    ⟨rfl, Kp.refl _, fun v H2 k2 ⟨t, v1, v2, e, ht, p, q⟩ => ⟨t, [v1, v2], e, SqT.of ht, rfl, v1, [v2], rfl, rfl, k2, fun x H3 k3 px => ⟨rfl, k2.trans k3, fun y H4 k4 py => by
      obtain ⟨l, xs, z, j', ex, ey, hl, hj', q⟩ := k v1 v2 x y H4 ((k2.trans k3).trans k4) (S1.st _ _ _ (k3.trans k4) p) (S3.st _ _ _ (k3.trans k4) q) (S2.st _ _ _ k4 px) py
      exact ⟨l, xs, z, j', ex, ey, hl, hj', v2, [], rfl, rfl, q⟩⟩⟩⟩
end
/-! ### defs that draw -/
section
variable {P : Program} {w : World} {K : PySem.W.Frag} {mg : Str → Option Value} {base : Heap}
def Q1 (S : Addr → Hp → PoT → Prop) : Addr → Pm := fun a vs H Po => vs = [.ref a] ∧ S a H Po
def Q2 (S : Addr → V → Hp → PoT → Prop) : Addr → Pm := fun a vs H Po => ∃ b, vs = [.ref a, b] ∧ S a b H Po
theorem defD1 {d : DR} {N : List Str} {k : Nat} {S : Addr → Hp → PoT → Prop} (D : DefIn K d) (p0 : Str)
    (hb : ∀ (cdv : Value) (A : Around) (outer : List Env) (s : Shared) (E : XK) (H : Hp) (a : Addr) (Po : PoT) (Q : VK), Room k (A.deeper (envOfC d.qual d.scope s.heap.objs.size (d.adr K) cdv)) → N.Nodup → PotOk (some a) H → S a H Po → (∀ v H', Kp (some a) H H' → Po v H' → Q v H') →
      Ss (bodyX P w K mg base N d cdv A outer s H E) d.body (start N [.ref a]) H { nx := fun _ H' => Q .non H', rt := Q })
    (sc : FnScope N [p0] d.scope := by exact ⟨rfl, rfl, rfl, by decide +kernel, rfl, by decide +kernel, by decide +kernel⟩) (h0 : d.dvs = [] := by rfl) (bind : BindsAs d [p0] := by exact fun _ _ _ _ _ _ us hl => match us, hl with | [_], _ => rfl) : CalA P w K mg base (d.adr K) (k + 1) (spD (Q1 S)) := by
  obtain ⟨fd, F⟩ := D
  have F0 := F
  rw [h0] at F0
  refine ⟨fd, [p0], fn_def F sc (fun vs H Q E ⟨a, Po, _, ⟨e, _⟩, _⟩ => by rw [e]; rfl) (fun cdv A outer s H vs Q E hr ⟨a, Po, hp, ⟨e, h⟩, q⟩ => ?_), F.kp, F0.bindsN bind⟩
  subst e
  exact hb cdv A outer s E H a Po Q hr sc.nd hp h q
theorem defD2 {d : DR} {N : List Str} {k : Nat} {S : Addr → V → Hp → PoT → Prop} (D : DefIn K d) (p0 p1 : Str)
    (hb : ∀ (cdv : Value) (A : Around) (outer : List Env) (s : Shared) (E : XK) (H : Hp) (a : Addr) (b : V) (Po : PoT) (Q : VK), Room k (A.deeper (envOfC d.qual d.scope s.heap.objs.size (d.adr K) cdv)) → N.Nodup → PotOk (some a) H → S a b H Po → (∀ v H', Kp (some a) H H' → Po v H' → Q v H') →
      Ss (bodyX P w K mg base N d cdv A outer s H E) d.body (start N [.ref a, b]) H { nx := fun _ H' => Q .non H', rt := Q })
    (sc : FnScope N [p0, p1] d.scope := by exact ⟨rfl, rfl, rfl, by decide +kernel, rfl, by decide +kernel, by decide +kernel⟩) (h0 : d.dvs = [] := by rfl) (bind : BindsAs d [p0, p1] := by exact fun _ _ _ _ _ _ us hl => match us, hl with | [_, _], _ => rfl) : CalA P w K mg base (d.adr K) (k + 1) (spD (Q2 S)) := by
  obtain ⟨fd, F⟩ := D
  have F0 := F
  rw [h0] at F0
  refine ⟨fd, [p0, p1], fn_def F sc (fun vs H Q E ⟨a, Po, _, ⟨b, e, _⟩, _⟩ => by rw [e]; rfl) (fun cdv A outer s H vs Q E hr ⟨a, Po, hp, ⟨b, e, h⟩, q⟩ => ?_), F.kp, F0.bindsN bind⟩
  subst e
  exact hb cdv A outer s E H a b Po Q hr sc.nd hp h q
end
section
variable {X : Cx} {z : Addr} {σ : L2.St} {H : Hp} {a b c : Expr} {P Pa Pb Pc : V → Hp → Prop} {x : Str} {k j : Nat} {p pos : Pos}
theorem ev_d1 {S : Addr → Hp → PoT → Prop} (C : Cal X.prog X.w X.K X.mg X.base x k [] (spD (Q1 S))) (hr : Room j X.A) (hp : PotOk (some z) H) (hk : k ≤ j := by decide) (ha : Ev (some z) X a σ H (Is (.ref z)))
    (h : ∀ H1, Kp (some z) H H1 → ∃ Po, S z H1 Po ∧ ∀ v H2, Kp (some z) H1 H2 → Po v H2 → P v H2) (hg : Gl X x := by rfl) (hdb : (x == ("__debug__" : Str)) = false := by decide)
    (he : starEach [a] X.env = (false, eval a X.env) :: starEach [] X.env := by rfl) (hpl : (backTo pos (starEach [] X.env)).any (·.1) = false := by rfl) : Ev (some z) X (.Call (.Name x p) [a] [] pos) σ H P :=
  ev_cD C (hr.mono hk) hp (ea1 ha he) (fun vs H1 k1 ⟨v, r, e, pv, er⟩ => by
    obtain rfl : r = [] := er
    obtain rfl : v = .ref z := pv
    obtain ⟨Po, s, z⟩ := h H1 k1
    exact ⟨Po, ⟨by rw [e]; rfl, s⟩, z⟩) hg hdb he hpl
theorem ev_d2 {S : Addr → V → Hp → PoT → Prop} (C : Cal X.prog X.w X.K X.mg X.base x k [] (spD (Q2 S))) (hr : Room j X.A) (hp : PotOk (some z) H) (hk : k ≤ j := by decide) (ha : Ev (some z) X a σ H (Is (.ref z))) (hb : Ev (some z) X b σ H Pb)
    (h : ∀ v H1, Kp (some z) H H1 → Pb v H1 → ∃ Po, S z v H1 Po ∧ ∀ v H2, Kp (some z) H1 H2 → Po v H2 → P v H2) (hg : Gl X x := by rfl) (hdb : (x == ("__debug__" : Str)) = false := by decide)
    (he : starEach [a, b] X.env = (false, eval a X.env) :: starEach [b] X.env := by rfl) (he2 : starEach [b] X.env = (false, eval b X.env) :: starEach [] X.env := by rfl) (hpl : (backTo pos (starEach [b] X.env)).any (·.1) = false := by rfl) : Ev (some z) X (.Call (.Name x p) [a, b] [] pos) σ H P :=
  ev_cD C (hr.mono hk) hp (ea ha (ea1 hb he2) he) (fun vs H1 k1 ⟨v, r, e, pv, u, r2, e2, pu, er⟩ => by
    obtain rfl : r2 = [] := er
    obtain rfl : v = .ref z := pv
    obtain ⟨Po, s, z⟩ := h u H1 k1 pu
    exact ⟨Po, ⟨u, by rw [e, e2]; rfl, s⟩, z⟩) hg hdb he hpl
end
section
variable {P : Program} {w : World} {K : PySem.W.Frag} {mg : Str → Option Value} {base : Heap}
/-- a draw: a number below the size -/
theorem c_draw (T : Txt K mg) : Cal P w K mg base "_law_draw" 1 [] (spD (Q2 fun a v H Po => ∃ sz : Int, v = .int sz ∧ 1 ≤ sz ∧ sz < 1000000 ∧ Po = IsS (fun i => 0 ≤ i ∧ i < sz))) := by
  refine (defD2 (N := ["_law_pot_here", "_law_size", "_law_digit"]) T.f_F_law_draw "_law_pot_here" "_law_size" fun cdv A outer s E H a v Po Q hr nd hp ⟨sz, ev, s1, s2, hPo⟩ hQ => ?_).named T.g__law_draw
  subst hPo
  subst ev
  obtain ⟨x, y, ha, hx, hy, hy2⟩ := pot_at hp
  have ip : ∀ {x y : Int}, 0 ≤ x → 0 ≤ y → y ≤ 2147483549 → isPot (.lst [.int x, .int y]) := fun h1 h2 h3 => ⟨h1, h2, h3⟩
  have at0 : ∀ {H' : Hp} {x y : Int} {j} {p1 p2 p3 : Pos} {o : Option V}, H' a = some (.lst [.int x, .int y]) → Ev none (bodyX P w K mg base ["_law_pot_here", "_law_size", "_law_digit"] d_F_law_draw cdv A outer s H E) (.Subscript (.Name "_law_pot_here" p1) (.Constant (.int 0) j p2) p3) [some (V.ref a), some (V.int sz), o] H' (Is (.int x)) :=
    fun h => ev_ix (pa := none) (ev_v 0) ev_int fun v H'' k e => ⟨a, _, _, e, SqL.of (k.get0 h), rfl, rfl⟩
  have at1 : ∀ {H' : Hp} {x y : Int} {j} {p1 p2 p3 : Pos} {o : Option V}, H' a = some (.lst [.int x, .int y]) → Ev none (bodyX P w K mg base ["_law_pot_here", "_law_size", "_law_digit"] d_F_law_draw cdv A outer s H E) (.Subscript (.Name "_law_pot_here" p1) (.Constant (.int 1) j p2) p3) [some (V.ref a), some (V.int sz), o] H' (Is (.int y)) :=
    fun h => ev_ix (pa := none) (ev_v 0) ev_int fun v H'' k e => ⟨a, _, _, e, SqL.of (k.get0 h), rfl, rfl⟩
  refine ss_ifb (pa := none) (k := decide (0 < x)) (et_gt (at0 ha) ev_int rfl) (fun h0 H1 k1 => ?_) (fun h0 H1 k1 => ss_nil ?_)
  · refine ss_subTup (pa := none) 2 (ev_divmod (i := x) (j := sz) T.n_divmod ⟨by omega, by omega⟩ (at0 (k1.get0 ha)) (ev_v 1)) (ev_v 0) ev_int fun v w x' y' H2 k2 e1 e2 e3 e4 => ?_
    subst e1
    subst e2
    subst e3
    subst e4
    have ha2 := (k1.trans k2).get0 ha
    refine ⟨a, _, _, 0, rfl, rfl, ha2, rfl, ?_⟩
    refine ss_ret (pa := none) (ev_v 2) fun v' H3 k3 e => hQ v' H3 ?_ ⟨_, e, Int.emod_nonneg _ (by omega), Int.emod_lt_of_pos _ (by omega)⟩
    exact ((k1.trans k2).ofN.trans (Kp.potSet ha2 (ip hx hy hy2) (ip (Int.ediv_nonneg hx (by omega)) hy hy2))).trans k3.ofN
  · refine ss_sub (pa := none) (ev_mod (j := 2147483549) (by omega) (ev_intI T.n_int (ev_add (ev_mul (cmulw (Nat.lt_trans (show y.natAbs < 2 ^ 32 by omega) (by decide)) (by decide)) (at1 (k1.get0 ha)) ev_int) ev_int)) ev_int) (ev_v 0) ev_int fun v x' y' H2 k2 e1 e2 e3 => ?_
    subst e1
    subst e2
    subst e3
    have ha2 := (k1.trans k2).get0 ha
    refine ⟨a, _, _, 1, rfl, rfl, ha2, rfl, ?_⟩
    generalize hy' : (y * 39541 + 6343) % 2147483549 = y'
    have hy1 : 0 ≤ y' := by omega
    have hy3 : y' < 2147483549 := by omega
    have k3 : Kp (some a) H (upd H2 a (.lst [.int x, .int y'])) := (k1.trans k2).ofN.trans (Kp.potSet ha2 (ip hx hy hy2) (ip hx hy1 (by omega)))
    have ha3 : upd H2 a (.lst [.int x, .int y']) a = some (.lst [.int x, .int y']) := upd_same
    have yb : y'.natAbs < 2 ^ 9000 := Nat.lt_trans (show y'.natAbs < 2 ^ 32 by omega) (by decide)
    refine ss_ret (pa := none) (P := IsS (fun i => 0 ≤ i ∧ i < sz)) ((ev_mod (j := sz) (by omega) (ev_intI T.n_int (ev_fdiv ⟨by decide, by decide⟩ (ev_mod (j := 2147483543) (by omega) (ev_intI T.n_int (ev_mul (cmulw yb yb) (at1 ha3) (at1 ha3))) ev_int) ev_int)) (ev_v 1)).imp fun v' H' _ e => ⟨_, e, Int.emod_nonneg _ (by omega), Int.emod_lt_of_pos _ (by omega)⟩) fun v' H' k h => hQ v' H' (k3.trans k.ofN) h
theorem c_pick (T : Txt K mg) : Cal P w K mg base "_law_pick" 2 [] (spD (Q2 fun a v H Po => ∃ p xs, v = .ref p ∧ H p = some (.lst xs) ∧ p ≠ a ∧ 1 ≤ xs.length ∧ xs.length ≤ 100 ∧ Po = fun v _ => v ∈ xs)) := by
  refine (defD2 (N := ["_law_pot_here", "_law_some"]) T.f_F_law_pick "_law_pot_here" "_law_some" fun cdv A outer s E H a v Po Q hr nd hp ⟨p, xs, ev, hx, hne, l1, l2, hPo⟩ hQ => ?_).named T.g__law_pick
  subst hPo
  subst ev
  have hne' : (some a : Option Addr) ≠ some p := fun e => hne (Option.some.inj e).symm
  refine ss_ret (pa := some a) (P := fun v _ => v ∈ xs) (ev_ixS (S' := fun i => 0 ≤ i ∧ i < (xs.length : Int)) (ev_v 1) (ev_d2 (c_draw T) hr hp (by decide) (ev_v 0) (ev_len (n := xs.length) T.n_len (ev_v 1) fun v H' k e => ⟨p, xs, e, .inl (SqL.of (k.ne hx hne')), rfl⟩) fun v H1 k1 e => ⟨_, ⟨xs.length, e, by omega, by omega, rfl⟩, fun v H2 _ h => h⟩) fun z v H' hz k e => ?_) hQ
  obtain ⟨n, rfl⟩ : ∃ n : Nat, z = (n : Int) := ⟨z.toNat, by omega⟩
  have hn : n < xs.length := by omega
  refine ⟨p, xs, xs[n], e, SqL.of (k.ne hx hne'), ?_, List.getElem_mem hn⟩
  unfold atI
  rw [ixN_nat hn]
  exact List.getElem?_eq_getElem hn
end
end RR
-- RP2
namespace RR
open PySem PySem.Spec PyProof.Rows L2
theorem cpow : CPow 10 18 := ⟨by omega, by omega, by decide⟩
section
variable {P : Program} {w : World} {K : PySem.W.Frag} {mg : Str → Option Value} {base : Heap}
/-- the pot -/
theorem c_pot (T : Txt K mg) : Cal P w K mg base "_law_pot" 1 [] (spN (P2 fun u v H Po => ∃ (sp : Addr) (ns : List Int) (k : Nat), u = .ref sp ∧ SqL K H sp (iv ns) ∧ v = .int (k : Nat) ∧ k < 100 ∧ Po = fun v H' => ∃ q o, v = .ref q ∧ H q = none ∧ H' q = some o ∧ isPot o)) := by
  refine (def2 (N := ["_law_script", "_law_k", "_law_cell"]) T.f_F_law_pot "_law_script" "_law_k" fun cdv A outer s E H u v Po Q hr nd ⟨sp, ns, k, eu, hs, ev, hk, hPo⟩ hQ => ?_).named T.g__law_pot
  subst hPo
  subst eu
  subst ev
  have sqk : ∀ {H' : Hp}, Kp none H H' → SqL K H' sp (iv ns) := fun k => hs.ext k.ext
  refine ss_set (pa := none) 2 (P := fun v _ => ∃ i : Int, v = .int i) (ev_if (k := decide (k < ns.length)) (et_lt (ev_v 1) (ev_len (n := ns.length) T.n_len (ev_v 0) fun v H' k e => ⟨sp, _, e, .inl (sqk k), List.length_map ..⟩) (decide_eq_decide.mpr (by omega))) (fun h => ?_) (fun h => ?_)) fun x H1 k1 ⟨i, e1⟩ => ?_
  · have h := of_decide_eq_true h
    refine (ev_abs T.n_abs (i := ns.getD k 0) (ev_ix (P := Is (.int (ns.getD k 0))) (i := k) (ev_v 0) (ev_v 1) fun v H' kk e => ⟨sp, _, _, e, sqk kk, ?_, rfl⟩)).imp fun v H' _ e => ⟨_, e⟩
    unfold atI
    rw [List.length_map, ixN_nat h]
    show (iv ns)[k]? = _
    rw [List.getElem?_map, List.getElem?_eq_getElem h, List.getD_eq_getElem?_getD, List.getElem?_eq_getElem h]
    rfl
  · exact (ev_add (ev_mul (cmulw (by decide) (Nat.lt_trans (show ((k : Int)).natAbs < 1000 by omega) (by decide))) ev_int (ev_v 1)) ev_int).imp fun v H' _ e => ⟨_, e⟩
  subst e1
  refine ss_ret (pa := none) (ev_list (ea (P := IsS (fun i => 0 ≤ i)) ((ev_max T.n_max ev_int (ev_sub (ev_v 2) (ev_pow cpow ev_int ev_int))).imp fun v H' _ e => ⟨_, e, Int.le_max_left _ _⟩) (ea (ev_add (ev_mod (j := 2147483549) (by omega) (ev_intI T.n_int (ev_add (ev_add (ev_mul (cmulw ?_ (by decide)) (ev_mod (i := i) (j := 2147483543) (by omega) (ev_intI T.n_int (ev_v 2)) ev_int) ev_int) (ev_mul (cmulw (by decide) (Nat.lt_trans (show ((k : Int)).natAbs < 1000 by omega) (by decide))) ev_int (ev_v 1))) ev_int)) ev_int) ev_int) ea0)) fun vs H' _ ⟨_, _, e, _, _, _, e2, _, e3⟩ => ?_) fun v' H' k2 ⟨q, xs, e, n, hq, y, r, e2, ey, z, r2, e3, ez, er⟩ => hQ v' H' (k1.trans k2) ⟨q, _, e, k1.free n, hq, ?_⟩
  · exact Nat.lt_trans (show (i % 2147483543).natAbs < 2 ^ 32 by omega) (by decide)
  · rw [e, e2, show _ = [] from e3]
    exact small (by show 2 ≤ 100000; decide)
  · obtain ⟨m, em, hm⟩ := ey
    rw [e2, e3, em, show z = _ from ez, show r2 = [] from er]
    refine ⟨hm, ?_, ?_⟩
    · have := Int.emod_nonneg (i % 2147483543 * 40471 + 6343 * (k : Int) + 223) (show (2147483549 : Int) ≠ 0 by omega)
      omega
    · have := Int.emod_lt_of_pos (i % 2147483543 * 40471 + 6343 * (k : Int) + 223) (show (0 : Int) < 2147483549 by omega)
      omega
end
end RR
set_option maxHeartbeats 2000000
-- RZ1
namespace RR
/-! ### bounds: numbers over one bottom -/
def Fb (M B : Nat) (q : Rat) : Prop := ∃ n : Int, q = Rat.divInt n M ∧ n.natAbs ≤ B
theorem Fb.sz {M B : Nat} {q : Rat} (h : Fb M B q) (hM : 0 < M) (hM2 : M < 2 ^ 4000) (hB : B < 2 ^ 4000) : Sz q := by
  obtain ⟨n, e, hn⟩ := h
  exact Fit.sz (k := 4000) ⟨n, e, Nat.lt_of_le_of_lt hn hB⟩ hM hM2 (Nat.le_refl _)
theorem Fb.zero {M B : Nat} : Fb M B 0 := ⟨0, by simp, Nat.zero_le _⟩
theorem Fb.mono {M B B' : Nat} {q : Rat} (h : Fb M B q) (hB : B ≤ B') : Fb M B' q := let ⟨n, e, hn⟩ := h; ⟨n, e, Nat.le_trans hn hB⟩
theorem Fb.int {B : Nat} {i : Int} (h : i.natAbs ≤ B) : Fb 1 B (i : Rat) := ⟨i, (rat_int i).symm, h⟩
theorem Fb.scale {M B : Nat} {q : Rat} (h : Fb M B q) (c : Nat) (hc : 0 < c) : Fb (M * c) (B * c) q := by
  obtain ⟨n, rfl, hn⟩ := h
  refine ⟨n * c, (divInt_scale hc).symm, ?_⟩
  rw [Int.natAbs_mul, Int.natAbs_natCast]
  exact Nat.mul_le_mul_right _ hn
theorem Fb.add {M B B' : Nat} {p q : Rat} (hp : Fb M B p) (hq : Fb M B' q) (hM : 0 < M) : Fb M (B + B') (p + q) := by
  obtain ⟨n, rfl, hn⟩ := hp
  obtain ⟨m, rfl, hm⟩ := hq
  refine ⟨n + m, ?_, ?_⟩
  · have h0 : ((M : Int) : Rat) ≠ 0 := by
      intro h
      have := Rat.intCast_inj.mp (h.trans Rat.intCast_zero.symm)
      omega
    rw [Rat.divInt_eq_div, Rat.divInt_eq_div, Rat.divInt_eq_div, Rat.intCast_add]
    grind
  · omega
theorem Fb.neg {M B : Nat} {p : Rat} (hp : Fb M B p) : Fb M B (-p) := by
  obtain ⟨n, rfl, hn⟩ := hp
  exact ⟨-n, Rat.neg_divInt n M, by omega⟩
theorem Fb.sub {M B B' : Nat} {p q : Rat} (hp : Fb M B p) (hq : Fb M B' q) (hM : 0 < M) : Fb M (B + B') (p - q) := by
  rw [Rat.sub_eq_add_neg]
  exact hp.add hq.neg hM
theorem Fb.mul {M M' B B' : Nat} {p q : Rat} (hp : Fb M B p) (hq : Fb M' B' q) : Fb (M * M') (B * B') (p * q) := by
  obtain ⟨n, rfl, hn⟩ := hp
  obtain ⟨m, rfl, hm⟩ := hq
  refine ⟨n * m, by rw [Int.natCast_mul, Rat.divInt_mul_divInt], ?_⟩
  rw [Int.natAbs_mul]
  exact Nat.mul_le_mul hn hm
theorem Fb.over {M B L : Nat} {p : Rat} (hp : Fb M B p) : Fb (M * L) B (p / ((L : Int) : Rat)) := by
  obtain ⟨n, rfl, hn⟩ := hp
  refine ⟨n, ?_, hn⟩
  rw [Rat.divInt_eq_div, Rat.divInt_eq_div, Int.natCast_mul, Rat.intCast_mul]
  grind
def FL (M B : Nat) (a : List Rat) : Prop := ∀ i, Fb M B (a.getD i 0)
theorem FL.szl {M B : Nat} {a : List Rat} (h : FL M B a) (hM : 0 < M) (hM2 : M < 2 ^ 4000) (hB : B < 2 ^ 4000) : SzL a := fun i => (h i).sz hM hM2 hB
theorem FL.mono {M B B' : Nat} {a : List Rat} (h : FL M B a) (hB : B ≤ B') : FL M B' a := fun i => (h i).mono hB
theorem FL.scale {M B : Nat} {a : List Rat} (h : FL M B a) (c : Nat) (hc : 0 < c) : FL (M * c) (B * c) a := fun i => (h i).scale c hc
theorem trim_get {a : List Rat} {i : Nat} : (trim a).getD i 0 = a.getD i 0 := by
  unfold trim
  by_cases hi : i < tl (fun i => a.getD i 0) a.length
  · rw [List.getD_eq_getElem?_getD, List.getElem?_take, if_pos hi, ← List.getD_eq_getElem?_getD]
  · rw [getD_ge (by rw [List.length_take]; omega)]
    have z : ∀ (c : Nat → Rat) n i, tl c n ≤ i → i < n → c i = 0 := fun c n => by
      induction n with
      | zero => intro i _ h; omega
      | succ n ih =>
        intro i h1 h2
        unfold tl at h1
        split at h1
        · rename_i h0
          by_cases e : i = n
          · rw [e]; exact h0
          · exact ih i h1 (by omega)
        · omega
    by_cases h : i < a.length
    · exact (z (fun i => a.getD i 0) a.length i (by omega) h).symm
    · exact (getD_ge (by omega)).symm
theorem FL.trim {M B : Nat} {a : List Rat} (h : FL M B a) : FL M B (trim a) := fun i => by rw [trim_get]; exact h i
theorem fl_mk {M B n : Nat} {f : Nat → Rat} (h : ∀ i, i < n → Fb M B (f i)) : FL M B (mk n f) := fun i => by
  rw [mk_get']
  split
  · exact h i ‹_›
  · exact Fb.zero
theorem sumP_get {a b : List Rat} {i : Nat} : (sumP a b).getD i 0 = a.getD i 0 + b.getD i 0 := by
  unfold sumP
  rw [trim_get, mk_get']
  split
  · rfl
  · rw [getD_ge (qs := a) (by omega), getD_ge (qs := b) (by omega), Rat.add_zero]
theorem byP_get {a : List Rat} {r : Rat} {i : Nat} : (byP a r).getD i 0 = a.getD i 0 * r := by
  unfold byP
  rw [trim_get, mk_get']
  split
  · rfl
  · rw [getD_ge (qs := a) (by omega), Rat.zero_mul]
theorem slopeP_get {a : List Rat} {i : Nat} : (slopeP a).getD i 0 = a.getD (i + 1) 0 * (((i + 1 : Nat) : Int) : Rat) := by
  unfold slopeP
  rw [mk_get']
  split
  · rfl
  · rw [getD_ge (qs := a) (by omega), Rat.zero_mul]
theorem FL.sum {M B B' : Nat} {a b : List Rat} (h : FL M B a) (h' : FL M B' b) (hM : 0 < M) : FL M (B + B') (sumP a b) := fun i => by rw [sumP_get]; exact (h i).add (h' i) hM
theorem FL.by {M M' B B' : Nat} {a : List Rat} {r : Rat} (h : FL M B a) (h' : Fb M' B' r) : FL (M * M') (B * B') (byP a r) := fun i => by rw [byP_get]; exact (h i).mul h'
theorem slope_fb {M B s : Nat} {a : List Rat} (h : FL M B a) (hl : a.length ≤ s) (i : Nat) : Fb M (B * s) (a.getD (i + 1) 0 * (((i + 1 : Nat) : Int) : Rat)) := by
  by_cases hi : i + 1 < a.length
  · have := (h (i + 1)).mul (Fb.int (B := s) (i := ((i + 1 : Nat) : Int)) (by omega))
    rw [Nat.mul_one] at this
    exact this
  · rw [getD_ge (by omega), Rat.zero_mul]
    exact Fb.zero
theorem FL.slope {M B s : Nat} {a : List Rat} (h : FL M B a) (hl : a.length ≤ s) : FL M (B * s) (slopeP a) := fun i => by rw [slopeP_get]; exact slope_fb h hl i
theorem set_get {f : List Rat} {c i : Nat} {q : Rat} : (f.set c q).getD i 0 = if c = i ∧ i < f.length then q else f.getD i 0 := by
  by_cases hi : c = i
  · subst hi
    by_cases h : c < f.length
    · rw [if_pos ⟨rfl, h⟩, set_getD h]
    · rw [if_neg (fun z => h z.2), getD_ge (by rw [List.length_set]; omega), getD_ge (by omega)]
  · rw [if_neg (fun z => hi z.1), List.getD_eq_getElem?_getD, List.getElem?_set_ne hi, ← List.getD_eq_getElem?_getD]
theorem rep_get {n i : Nat} : (List.replicate n (0 : Rat)).getD i 0 = 0 := by
  rw [List.getD_eq_getElem?_getD, List.getElem?_replicate]
  split <;> rfl
/-- the entries of a part of the product -/
theorem rowQ_get {c : Rat} {far f : List Rat} {i : Nat} : ∀ m k, k < f.length → (rowQ c far i f m).getD k 0 = f.getD k 0 + if i ≤ k ∧ k < i + m then c * far.getD (k - i) 0 else 0
  | 0, k, hk => by
    rw [if_neg (by omega), Rat.add_zero]
    rfl
  | m + 1, k, hk => by
    show ((rowQ c far i f m).set (i + m) _).getD k 0 = _
    rw [set_get, rowQ_len, rowQ_get m k hk]
    by_cases h : i + m = k
    · rw [if_pos ⟨h, hk⟩, h, rowQ_get m k hk, if_neg (by omega), if_pos (by omega), Rat.add_zero]
      rw [show k - i = m by omega]
    · rw [if_neg (fun z => h z.1)]
      by_cases h2 : i ≤ k ∧ k < i + m
      · rw [if_pos h2, if_pos (by omega)]
      · rw [if_neg h2, if_neg (by omega)]
theorem rowQ_ge {c : Rat} {far f : List Rat} {i m k : Nat} (h : f.length ≤ k) : (rowQ c far i f m).getD k 0 = 0 := getD_ge (by rw [rowQ_len]; exact h)
theorem fl_row {M B B1 : Nat} {c : Rat} {far f : List Rat} {i m : Nat} (hM : 0 < M) (hf : FL M B f) (ht : ∀ j, Fb M B1 (c * far.getD j 0)) : FL M (B + B1) (rowQ c far i f m) := fun k => by
  by_cases hk : k < f.length
  · rw [rowQ_get m k hk]
    split
    · exact (hf k).add (ht _) hM
    · rw [Rat.add_zero]; exact (hf k).mono (Nat.le_add_right _ _)
  · rw [rowQ_ge (by omega)]
    exact Fb.zero
theorem fl_prodN {M M' B B' : Nat} {a b : List Rat} (hM : 0 < M) (hM' : 0 < M') (ha : FL M B a) (hb : FL M' B' b) : ∀ n, FL (M * M') (n * (B * B')) (prodN' a b n)
  | 0 => fun k => by
    show Fb _ _ ((List.replicate _ (0 : Rat)).getD k 0)
    rw [rep_get]
    exact Fb.zero
  | n + 1 => by
    rw [Nat.succ_mul]
    exact fl_row (Nat.mul_pos hM hM') (fl_prodN hM hM' ha hb n) fun j => (ha n).mul (hb j)
theorem FL.prod {M M' B B' s : Nat} {a b : List Rat} (hM : 0 < M) (hM' : 0 < M') (ha : FL M B a) (hb : FL M' B' b) (hs : a.length ≤ s) : FL (M * M') (s * (B * B')) (prodR a b) := by
  unfold prodR
  split
  · exact fun i => Fb.zero
  · exact (fl_prodN hM hM' ha hb _).mono (Nat.mul_le_mul_right _ hs)
theorem prodOk_of {M M' B B' : Nat} {a b : List Rat} (hM : 0 < M) (hM' : 0 < M') (ha : FL M B a) (hb : FL M' B' b) (la : a.length ≤ 64) (lb : b.length ≤ 64) (h1 : M * M' < 2 ^ 4000) (h2 : 64 * (B * B') < 2 ^ 4000) (h3 : M < 2 ^ 4000) (h4 : M' < 2 ^ 4000) (h5 : B < 2 ^ 4000) (h6 : B' < 2 ^ 4000) : ProdOk a b where
  sa := ha.szl hM h3 h5
  sb := hb.szl hM' h4 h6
  la := by omega
  lb := by omega
  pr := fun n m => ((ha n).mul (hb m)).sz (Nat.mul_pos hM hM') h1 (by omega)
  st := fun n m hn hm => by
    have h := fl_row (i := n) (m := m) (Nat.mul_pos hM hM') (fl_prodN hM hM' ha hb n) fun j => (ha n).mul (hb j)
    refine h.szl (Nat.mul_pos hM hM') h1 (Nat.lt_of_le_of_lt ?_ h2)
    rw [← Nat.succ_mul]
    exact Nat.mul_le_mul_right _ (by omega)
end RR
-- RZ2
namespace RR
/-! ### sums -/
def sN (f : Nat → Rat) : Nat → Rat
  | 0 => 0
  | n + 1 => sN f n + f n
theorem sN_congr {f g : Nat → Rat} : ∀ {n : Nat}, (∀ p, p < n → f p = g p) → sN f n = sN g n
  | 0, _ => rfl
  | n + 1, h => by
    show sN f n + f n = sN g n + g n
    rw [sN_congr fun p hp => h p (by omega), h n (by omega)]
theorem sN_add {f g : Nat → Rat} : ∀ {n : Nat}, sN (fun p => f p + g p) n = sN f n + sN g n
  | 0 => by show (0 : Rat) = 0 + 0; rw [Rat.add_zero]
  | n + 1 => by
    show sN _ n + (f n + g n) = (sN f n + f n) + (sN g n + g n)
    rw [sN_add]
    grind
theorem sN_mul {f : Nat → Rat} {c : Rat} : ∀ {n : Nat}, sN (fun p => f p * c) n = sN f n * c
  | 0 => by show (0 : Rat) = 0 * c; rw [Rat.zero_mul]
  | n + 1 => by
    show sN _ n + f n * c = (sN f n + f n) * c
    rw [sN_mul]
    grind
theorem sN_zero {f : Nat → Rat} : ∀ {n : Nat}, (∀ p, p < n → f p = 0) → sN f n = 0
  | 0, _ => rfl
  | n + 1, h => by
    show sN f n + f n = 0
    rw [sN_zero fun p hp => h p (by omega), h n (by omega), Rat.add_zero]
theorem sN_ext {f : Nat → Rat} {n : Nat} : ∀ {m : Nat}, n ≤ m → (∀ p, n ≤ p → f p = 0) → sN f m = sN f n
  | 0, h, _ => by rw [show n = 0 by omega]
  | m + 1, h, hz => by
    by_cases e : n = m + 1
    · rw [e]
    · show sN f m + f m = _
      rw [hz m (by omega), Rat.add_zero]
      exact sN_ext (by omega) hz
theorem sN_shift {f : Nat → Rat} : ∀ {n : Nat}, sN f (n + 1) = f 0 + sN (fun p => f (p + 1)) n
  | 0 => by show 0 + f 0 = f 0 + 0; grind
  | n + 1 => by
    show sN f (n + 1) + f (n + 1) = f 0 + (sN _ n + f (n + 1))
    rw [sN_shift]
    grind
theorem sN_set {f g : Nat → Rat} {m : Nat} {d : Rat} (hm : g m = f m + d) (h : ∀ p, p ≠ m → g p = f p) : ∀ {n : Nat}, m < n → sN g n = sN f n + d
  | 0, hn => by omega
  | n + 1, hn => by
    show sN g n + g n = sN f n + f n + d
    by_cases e : m = n
    · subst e
      rw [hm, sN_congr (f := g) (g := f) fun p hp => h p (by omega)]
      grind
    · rw [sN_set hm h (by omega), h n (fun z => e z.symm)]
      grind
theorem sN_one {f : Nat → Rat} {m : Nat} (h : ∀ p, p ≠ m → f p = 0) : ∀ {n : Nat}, m < n → sN f n = f m
  | 0, hn => by omega
  | n + 1, hn => by
    show sN f n + f n = _
    by_cases e : m = n
    · subst e
      rw [sN_zero fun p hp => h p (by omega), Rat.zero_add]
    · rw [sN_one h (by omega), h n (fun z => e z.symm), Rat.add_zero]
/-! ### the entries -/
theorem psl_get {D : List Rat} {p : Nat} : ∀ n i, (psl D p n).getD i 0 = if p ≤ i + 1 ∧ i + 1 - p < n then D.getD (i + 1 - p) 0 * half2 (2 * p + (i + 1 - p)) else 0
  | 0, i => by
    rw [if_neg (by omega)]
    exact rep_get
  | n + 1, i => by
    have hl := psl_len (D := D) (p := p) n
    show (if 0 < p + n then _ else _ : List Rat).getD i 0 = _
    by_cases h0 : 0 < p + n
    · rw [if_pos h0]
      have hl2 : (psl D p n).length = p + n - 1 := by
        rw [hl]
        split <;> omega
      by_cases hi : i < (psl D p n).length
      · rw [app_getD hi, psl_get n i]
        by_cases h1 : p ≤ i + 1 ∧ i + 1 - p < n
        · rw [if_pos h1, if_pos ⟨h1.1, by omega⟩]
        · rw [if_neg h1, if_neg (by omega)]
      · by_cases he : i = (psl D p n).length
        · subst he
          rw [app_getD', hl2, if_pos (by omega)]
          rw [show p + n - 1 + 1 - p = n by omega]
        · rw [getD_ge (by rw [List.length_append, List.length_singleton]; omega), if_neg (by omega)]
    · rw [if_neg h0, psl_get n i, if_neg (by omega), if_neg (by omega)]
theorem ps_get {D : List Rat} {p i : Nat} : (powerSum D p).getD i 0 = if p ≤ i + 1 then D.getD (i + 1 - p) 0 * half2 (2 * p + (i + 1 - p)) else 0 := by
  unfold powerSum
  rw [psl_get]
  by_cases h : p ≤ i + 1
  · rw [if_pos h]
    by_cases h2 : i + 1 - p < D.length
    · rw [if_pos ⟨h, h2⟩]
    · rw [if_neg (fun z => h2 z.2), getD_ge (by omega), Rat.zero_mul]
  · rw [if_neg h, if_neg (fun z => h z.1)]
theorem ps_ge {D : List Rat} {p i : Nat} (hD : 1 ≤ D.length) (h : p + nD D ≤ i) : (powerSum D p).getD i 0 = 0 := by
  rw [ps_get]
  split
  · rw [getD_ge (by unfold nD at h; omega), Rat.zero_mul]
  · rfl
theorem half2_two (k : Nat) : half2 (2 * k) = (((k : Nat) : Int) : Rat) := by
  unfold half2
  rw [show ((2 * k : Nat) : Int) = (k : Int) * 2 by omega, Rat.divInt_eq_div, Rat.intCast_mul]
  grind
theorem half2_eq (k : Nat) : half2 k = (((k : Nat) : Int) : Rat) * half2 1 := by
  unfold half2
  rw [Rat.divInt_eq_div, Rat.divInt_eq_div]
  grind
theorem prodN'_get {a b : List Rat} : ∀ n k, n ≤ a.length → k < a.length + b.length - 1 → (prodN' a b n).getD k 0 = sN (fun p => if p ≤ k then a.getD p 0 * b.getD (k - p) 0 else 0) n
  | 0, k, _, _ => rep_get
  | n + 1, k, hn, hk => by
    show (rowQ _ _ _ _ _).getD k 0 = _
    rw [rowQ_get _ k (by rw [prodN'_len]; exact hk), prodN'_get n k (by omega) hk]
    show _ = sN _ n + (if n ≤ k then a.getD n 0 * b.getD (k - n) 0 else 0)
    congr 1
    by_cases h : n ≤ k
    · rw [if_pos h]
      by_cases h2 : k < n + b.length
      · rw [if_pos ⟨h, h2⟩]
      · rw [if_neg (fun z => h2 z.2), getD_ge (qs := b) (by omega), Rat.mul_zero]
    · rw [if_neg h, if_neg (fun z => h z.1)]
theorem prodR_get {a b : List Rat} {k : Nat} : (prodR a b).getD k 0 = sN (fun p => if p ≤ k then a.getD p 0 * b.getD (k - p) 0 else 0) a.length := by
  unfold prodR
  by_cases h : a.length = 0 ∨ b.length = 0
  · rw [if_pos h]
    refine (sN_zero fun p hp => ?_).symm
    split
    · rcases h with h | h
      · omega
      · rw [getD_ge (qs := b) (by omega), Rat.mul_zero]
    · rfl
  · rw [if_neg h]
    by_cases hk : k < a.length + b.length - 1
    · exact prodN'_get _ k (Nat.le_refl _) hk
    · rw [getD_ge (by rw [prodN'_len]; omega)]
      refine (sN_zero fun p hp => ?_).symm
      split
      · rw [getD_ge (qs := b) (by omega), Rat.mul_zero]
      · rfl
/-- the sum of a row's multiples of the power sums -/
def US (D S : List Rat) (i : Nat) : Rat := sN (fun p => S.getD p 0 * (powerSum D p).getD i 0) S.length
theorem US_ext {D S : List Rat} {i m : Nat} (h : S.length ≤ m) : US D S i = sN (fun p => S.getD p 0 * (powerSum D p).getD i 0) m :=
  (sN_ext h fun p hp => by rw [getD_ge hp, Rat.zero_mul]).symm
theorem sumdF_get {D S : List Rat} {i : Nat} : ∀ m, (sumdF D S m).getD i 0 = sN (fun p => S.getD p 0 * (powerSum D p).getD i 0) m
  | 0 => rfl
  | m + 1 => by
    show (if S.getD m 0 = 0 then sumdF D S m else _ : List Rat).getD i 0 = sN _ m + S.getD m 0 * (powerSum D m).getD i 0
    by_cases h : S.getD m 0 = 0
    · rw [if_pos h, sumdF_get m, h, Rat.zero_mul, Rat.add_zero]
    · rw [if_neg h, sumP_get, sumdF_get m]
      congr 1
      by_cases hi : i < (powerSum D m).length
      · exact map_getQ hi
      · rw [getD_ge (by rw [List.length_map]; omega), getD_ge (qs := powerSum D m) (by omega), Rat.mul_zero]
theorem upL_get {D S : List Rat} {i : Nat} : (upL D S).getD i 0 = US D S i := by
  unfold upL
  rw [sumP_get, byP_get, prodR_get, prodR_get]
  -- the first sum
  have e1 : sN (fun p => if p ≤ i then (trim (slopeP S)).getD p 0 * D.getD (i - p) 0 else 0) (trim (slopeP S)).length = sN (fun p => if p ≤ i + 1 then S.getD p 0 * (((p : Nat) : Int) : Rat) * D.getD (i + 1 - p) 0 else 0) S.length := by
    have h1 : sN (fun p => if p ≤ i then (trim (slopeP S)).getD p 0 * D.getD (i - p) 0 else 0) (trim (slopeP S)).length = sN (fun p => if p ≤ i then (trim (slopeP S)).getD p 0 * D.getD (i - p) 0 else 0) S.length := by
      refine (sN_ext (Nat.le_trans (trim_le _) (by unfold slopeP; rw [mk_len]; omega)) fun p hp => ?_).symm
      rw [getD_ge hp, Rat.zero_mul]
      split <;> rfl
    have h2 : sN (fun p => if p ≤ i + 1 then S.getD p 0 * (((p : Nat) : Int) : Rat) * D.getD (i + 1 - p) 0 else 0) S.length = sN (fun p => if p ≤ i + 1 then S.getD p 0 * (((p : Nat) : Int) : Rat) * D.getD (i + 1 - p) 0 else 0) (S.length + 1) := by
      refine (sN_ext (Nat.le_succ _) fun p hp => ?_).symm
      rw [getD_ge hp, Rat.zero_mul, Rat.zero_mul]
      split <;> rfl
    rw [h1, h2, sN_shift]
    have h0 : (if 0 ≤ i + 1 then S.getD 0 0 * (((0 : Nat) : Int) : Rat) * D.getD (i + 1 - 0) 0 else 0) = 0 := by
      rw [if_pos (by omega), show (((0 : Nat) : Int) : Rat) = 0 from Rat.intCast_zero, Rat.mul_zero, Rat.zero_mul]
    rw [h0, Rat.zero_add]
    refine sN_congr fun p hp => ?_
    rw [trim_get, slopeP_get]
    by_cases h : p ≤ i
    · rw [if_pos h, if_pos (by omega), show i + 1 - (p + 1) = i - p by omega]
    · rw [if_neg h, if_neg (by omega)]
  have e2 : sN (fun p => if p ≤ i then S.getD p 0 * (trim (slopeP D)).getD (i - p) 0 else 0) S.length = sN (fun p => if p ≤ i + 1 then S.getD p 0 * (D.getD (i + 1 - p) 0 * (((i + 1 - p : Nat) : Int) : Rat)) else 0) S.length := by
    refine sN_congr fun p hp => ?_
    rw [trim_get, slopeP_get]
    by_cases h : p ≤ i
    · rw [if_pos h, if_pos (by omega), show i - p + 1 = i + 1 - p by omega]
    · rw [if_neg h]
      by_cases h2 : p ≤ i + 1
      · rw [if_pos h2, show i + 1 - p = 0 by omega, show (((0 : Nat) : Int) : Rat) = 0 from Rat.intCast_zero, Rat.mul_zero, Rat.mul_zero]
      · rw [if_neg h2]
  rw [e1, e2, ← sN_mul, ← sN_add]
  refine sN_congr fun p hp => ?_
  show _ = S.getD p 0 * (powerSum D p).getD i 0
  rw [ps_get]
  by_cases h : p ≤ i + 1
  · rw [if_pos h, if_pos h, if_pos h, half2_eq (2 * p + (i + 1 - p))]
    have h1 : ((((2 * p + (i + 1 - p) : Nat) : Int)) : Rat) * half2 1 = (((p : Nat) : Int) : Rat) + (((i + 1 - p : Nat) : Int) : Rat) * half2 1 := by
      have h3 : half2 1 * 2 = 1 := by
        have := half2_eq 2
        have h4 := half2_two 1
        rw [show (2 * 1 : Nat) = 2 from rfl] at h4
        rw [h4] at this
        have h5 : (((1 : Nat) : Int) : Rat) = 1 := rfl
        have h6 : (((2 : Nat) : Int) : Rat) = 2 := rfl
        rw [h5, h6] at this
        rw [Rat.mul_comm]
        exact this.symm
      rw [show (((2 * p + (i + 1 - p) : Nat) : Int)) = (p : Int) * 2 + ((i + 1 - p : Nat) : Int) by omega, Rat.intCast_add, Rat.intCast_mul, Rat.add_mul]
      congr 1
      have h6 : ((2 : Int) : Rat) = 2 := rfl
      rw [h6, Rat.mul_assoc, Rat.mul_comm 2, h3, Rat.mul_one]
    rw [h1]
    grind
  · rw [if_neg h, if_neg h, if_neg h, Rat.mul_zero, Rat.zero_mul, Rat.add_zero]
/-! ### rows that end in no zero -/
theorem tl_congr {c d : Nat → Rat} : ∀ {n : Nat}, (∀ i, i < n → c i = d i) → tl c n = tl d n
  | 0, _ => rfl
  | n + 1, h => by
    show (if c n = 0 then tl c n else n + 1) = if d n = 0 then tl d n else n + 1
    rw [h n (by omega), tl_congr fun i hi => h i (by omega)]
theorem tl_more {c : Nat → Rat} {n : Nat} : ∀ {m : Nat}, n ≤ m → (∀ i, n ≤ i → c i = 0) → tl c m = tl c n
  | 0, h, _ => by rw [show n = 0 by omega]
  | m + 1, h, hz => by
    by_cases e : n = m + 1
    · rw [e]
    · show (if c m = 0 then tl c m else m + 1) = _
      rw [if_pos (hz m (by omega))]
      exact tl_more (by omega) hz
theorem list_ext {a b : List Rat} (hl : a.length = b.length) (h : ∀ i, a.getD i 0 = b.getD i 0) : a = b := by
  refine List.ext_getElem hl fun i h1 h2 => ?_
  have := h i
  rw [List.getD_eq_getElem?_getD, List.getD_eq_getElem?_getD, List.getElem?_eq_getElem h1, List.getElem?_eq_getElem h2] at this
  exact this
theorem trim_eq {a b : List Rat} (h : ∀ i, a.getD i 0 = b.getD i 0) : trim a = trim b := by
  refine list_ext ?_ fun i => by rw [trim_get, trim_get]; exact h i
  rw [trim_len, trim_len]
  have e1 : tl (fun i => a.getD i 0) (max a.length b.length) = tl (fun i => a.getD i 0) a.length := tl_more (by omega) fun i hi => getD_ge hi
  have e2 : tl (fun i => b.getD i 0) (max a.length b.length) = tl (fun i => b.getD i 0) b.length := tl_more (by omega) fun i hi => getD_ge hi
  rw [← e1, ← e2]
  exact tl_congr fun i _ => h i
theorem trim_trim (a : List Rat) : trim (trim a) = trim a := trim_eq fun i => trim_get
theorem trim_app0 (a : List Rat) : trim (a ++ [0]) = trim a := trim_eq fun i => by
  by_cases h : i < a.length
  · exact app_getD h
  · rw [getD_ge (qs := a) (by omega)]
    by_cases e : i = a.length
    · rw [e, app_getD']
    · exact getD_ge (by rw [List.length_append, List.length_singleton]; omega)
theorem trim_short {n : Nat} {f : Nat → Rat} (hn : 0 < n) (h : f (n - 1) = 0) : (trim (mk n f)).length < n := by
  rw [trim_len, mk_len]
  obtain ⟨k, rfl⟩ : ∃ k, n = k + 1 := ⟨n - 1, by omega⟩
  have e : (mk (k + 1) f).getD k 0 = 0 := by rw [mk_get (by omega)]; exact h
  have : tl (fun i => (mk (k + 1) f).getD i 0) (k + 1) ≤ k := by
    show (if (mk (k + 1) f).getD k 0 = 0 then _ else _) ≤ k
    rw [if_pos e]
    exact tl_le _ _
  omega
theorem trim_last {a : List Rat} (h : trim a = a) (hl : 0 < a.length) : a.getD (a.length - 1) 0 ≠ 0 := by
  have e : tl (fun i => a.getD i 0) a.length = a.length := by rw [← trim_len, h]
  obtain ⟨k, hk⟩ : ∃ k, a.length = k + 1 := ⟨a.length - 1, by omega⟩
  rw [hk] at e
  intro z
  rw [hk, Nat.add_sub_cancel] at z
  have : tl (fun i => a.getD i 0) (k + 1) ≤ k := by
    show (if a.getD k 0 = 0 then _ else _) ≤ k
    rw [if_pos z]
    exact tl_le _ _
  omega
end RR
-- RZ3
namespace RR
/-- what is known of a root's polynomial besides -/
structure DOk (D : List Rat) : Prop where
  ln : ∃ h : Nat, 1 ≤ h ∧ h ≤ 4 ∧ D.length = 2 * h + 1
  fl : FL 1 4096 D
  ld : ∃ r : Nat, 1 ≤ r ∧ leadQ D = ((((r : Nat) : Int) * (r : Int) : Int) : Rat) ∧ r * r ≤ 4096
theorem big {B : Nat} (h : B < 2 ^ 2000) : B * 1099511627776 < 2 ^ 4000 := by
  have h1 : B * 1099511627776 < 2 ^ 2000 * 2 ^ 2000 := Nat.mul_lt_mul'' h (by decide)
  rw [← Nat.pow_add] at h1
  exact h1
theorem lt4 {B : Nat} (h : B < 2 ^ 2000) : B < 2 ^ 4000 := Nat.lt_of_le_of_lt (show B ≤ B * 1099511627776 by omega) (big h)
section
variable {D : List Rat} (d : DOk D)
include d
theorem DOk.len : 3 ≤ D.length ∧ D.length ≤ 9 := by
  obtain ⟨h, h1, h2, e⟩ := d.ln
  omega
theorem DOk.sz : SzL D := d.fl.szl (by decide) (by decide) (by decide)
theorem DOk.lq (m : Nat) (hm : m ≤ 16) : ∃ L : Nat, 1 ≤ L ∧ L ≤ 131072 ∧ Lq D m = (((L : Nat) : Int) : Rat) := by
  obtain ⟨h, h1, h2, e⟩ := d.ln
  obtain ⟨r, r1, hl, hr⟩ := d.ld
  refine ⟨r * r * (h + m), ?_, ?_, ?_⟩
  · exact Nat.mul_pos (Nat.mul_pos r1 r1) (by omega)
  · exact Nat.le_trans (Nat.mul_le_mul hr (show h + m ≤ 32 by omega)) (by decide)
  · unfold Lq
    rw [hl, ← Rat.intCast_mul, show D.length / 2 = h by omega, Int.natCast_mul, Int.natCast_mul, Int.natCast_add]
theorem ps_fl (p : Nat) (hp : p ≤ 16) : FL 2 262144 (powerSum D p) := fun i => by
  obtain ⟨_, h9⟩ := d.len
  rw [ps_get]
  split
  · by_cases h : i + 1 - p < D.length
    · have h1 := (d.fl (i + 1 - p)).mul (⟨((2 * p + (i + 1 - p) : Nat) : Int), rfl, by omega⟩ : Fb 2 64 (half2 (2 * p + (i + 1 - p))))
      exact h1
    · rw [getD_ge (by omega), Rat.zero_mul]
      exact Fb.zero
  · exact Fb.zero
theorem stepL_get {m i : Nat} {l : List Rat} (hl : l.length = nD D + m) : (stepL D m l).getD i 0 = l.getD i 0 - stepQ D m l * (powerSum D m).getD i 0 := by
  obtain ⟨h3, _⟩ := d.len
  unfold stepL
  rw [trim_get, mk_get']
  by_cases h : i < l.length
  · rw [if_pos h]
  · rw [if_neg h, getD_ge (qs := l) (by omega), ps_ge (by omega) (by omega), Rat.mul_zero]
    grind
theorem ps_top (m : Nat) : (powerSum D m).getD (nD D + m - 1) 0 = Lq D m := by
  obtain ⟨h, h1, h2, e⟩ := d.ln
  have hn : nD D = 2 * h := by unfold nD; omega
  rw [ps_get, if_pos (by omega)]
  unfold Lq leadQ
  rw [show nD D + m - 1 + 1 - m = D.length - 1 by unfold nD; omega]
  congr 1
  rw [show 2 * m + (D.length - 1) = 2 * (h + m) by omega, half2_two, show D.length / 2 = h by omega, Int.natCast_add]
theorem lq_ne (m : Nat) (hm : m ≤ 16) : Lq D m ≠ 0 := by
  obtain ⟨L, l1, _, e⟩ := d.lq m hm
  rw [e]
  intro z
  have := Rat.intCast_inj.mp (z.trans Rat.intCast_zero.symm)
  omega
theorem step_short {m : Nat} {l : List Rat} (hm : m ≤ 16) (hl : l.length = nD D + m) : (stepL D m l).length < nD D + m := by
  obtain ⟨h3, _⟩ := d.len
  have hn : 2 ≤ nD D := by unfold nD; omega
  rw [← hl]
  unfold stepL
  refine trim_short (by omega) ?_
  rw [show l.length - 1 = nD D + m - 1 by omega, ps_top d]
  unfold stepQ
  rw [show l.length - 1 = nD D + m - 1 by omega, Rat.div_mul_cancel (lq_ne d m hm)]
  grind
theorem step_fb {M B m : Nat} {l : List Rat} (hm : m ≤ 16) (hM : 0 < M) (h : FL M B l) : ∃ L : Nat, 1 ≤ L ∧ L ≤ 131072 ∧ Fb (M * L) B (stepQ D m l) ∧ (l.length = nD D + m → FL (M * (L * 2)) (B * 524288) (stepL D m l)) := by
  obtain ⟨L, l1, l2, e⟩ := d.lq m hm
  have hq : Fb (M * L) B (stepQ D m l) := by
    unfold stepQ
    rw [e]
    exact (h _).over
  refine ⟨L, l1, l2, hq, fun hl i => ?_⟩
  rw [stepL_get d hl]
  have h1 := (h i).scale (L * 2) (by omega)
  have h2 := hq.mul (ps_fl d m hm i)
  rw [Nat.mul_assoc] at h2
  refine (h1.sub h2 (Nat.mul_pos hM (by omega))).mono ?_
  have : B * (L * 2) ≤ B * 262144 := Nat.mul_le_mul_left _ (by omega)
  omega
theorem stepOk_of {M B m : Nat} {l : List Rat} (hm : m ≤ 16) (hM : 0 < M) (hM2 : M < 2 ^ 2000) (hB : B < 2 ^ 2000) (h : FL M B l) (hl : l.length = nD D + m) : StepOk D m l := by
  obtain ⟨L, l1, l2, hq, _⟩ := step_fb d hm hM h
  obtain ⟨L', k1, k2, e⟩ := d.lq m hm
  have b1 := big hM2
  have b2 := big hB
  have ml : M * L ≤ M * 1099511627776 := Nat.mul_le_mul_left _ (Nat.le_trans l2 (by decide))
  have ml2 : M * L * 2 ≤ M * 1099511627776 := by rw [Nat.mul_assoc]; exact Nat.mul_le_mul_left _ (by omega)
  have mb : B * 262144 ≤ B * 1099511627776 := Nat.mul_le_mul_left _ (by decide)
  have hML : 0 < M * L := Nat.mul_pos hM l1
  exact {
    sl := h.szl hM (lt4 hM2) (lt4 hB)
    L := by rw [e]; exact Sz.nat (Nat.lt_of_le_of_lt k2 (by decide))
    L0 := lq_ne d m hm
    q := hq.sz hML (Nat.lt_of_le_of_lt ml b1) (lt4 hB)
    ps := (ps_fl d m hm).szl (by decide) (by decide) (by decide)
    tm := fun i => (hq.mul (ps_fl d m hm i)).sz (Nat.mul_pos hML (by decide)) (Nat.lt_of_le_of_lt ml2 b1) (Nat.lt_of_le_of_lt mb b2)
    sh := step_short d hm hl }
theorem pow20 {M e c : Nat} (h : M < 2 ^ e) (hc : c ≤ 2 ^ 20) (h0 : 0 < c) : M * c < 2 ^ (e + 20) := by
  rw [Nat.pow_add]
  exact Nat.lt_of_lt_of_le (Nat.mul_lt_mul_of_pos_right h h0) (Nat.mul_le_mul_left _ hc)
theorem lawOk_of : ∀ (m e M B : Nat) (l : List Rat), m ≤ 17 → 0 < M → M < 2 ^ e → B < 2 ^ e → FL M B l → e + 20 * m ≤ 2000 → LawOk D m l
  | 0, _, _, _, _, _, _, _, _, _, _ => trivial
  | m + 1, e, M, B, l, hm, hM, hM2, hB, h, he => by
    refine ⟨fun hl => ?_, fun _ => lawOk_of m e M B l (by omega) hM hM2 hB h (by omega)⟩
    have p : (2 : Nat) ^ e ≤ 2 ^ 2000 := Nat.pow_le_pow_right (by decide) (by omega)
    refine ⟨stepOk_of d (by omega) hM (Nat.lt_of_lt_of_le hM2 p) (Nat.lt_of_lt_of_le hB p) h hl, ?_⟩
    obtain ⟨L, l1, l2, _, hs⟩ := step_fb d (m := m) (by omega) hM h
    exact lawOk_of m (e + 20) _ _ _ (by omega) (Nat.mul_pos hM (by omega)) (pow20 d hM2 (by omega) (by omega)) (pow20 d hB (by decide) (by decide)) (hs hl) (by omega)
theorem upOk_of {M B : Nat} {S : List Rat} (hM : 0 < M) (hM2 : M < 2 ^ 2000) (hB : B < 2 ^ 2000) (h : FL M B S) (lS : S.length ≤ 20) : UpOk D S ∧ FL (M * 1 * 2) (B * 33554432) (upL D S) := by
  obtain ⟨h3, h9⟩ := d.len
  have b1 := big hM2
  have b2 := big hB
  have sl : (trim (slopeP S)).length ≤ 32 := Nat.le_trans (trim_le _) (by unfold slopeP; rw [mk_len]; omega)
  have dl : (trim (slopeP D)).length ≤ 32 := Nat.le_trans (trim_le _) (by unfold slopeP; rw [mk_len]; omega)
  have fS : FL M (B * 32) (trim (slopeP S)) := (h.slope (by omega)).trim
  have fD : FL 1 (4096 * 16) (trim (slopeP D)) := (d.fl.slope (by omega)).trim
  have hm2 : Fb 2 1 (half2 1) := ⟨1, rfl, by decide⟩
  have q1 := fS.prod (s := 32) hM (by decide) d.fl sl
  have q2 := h.prod (s := 32) hM (by decide) fD (by omega)
  have q3 := q2.by hm2
  have M1 : 0 < M * 1 := by omega
  have M1b : M * 1 < 2 ^ 4000 := Nat.lt_of_le_of_lt (show M * 1 ≤ M * 1099511627776 by omega) b1
  have M2b : M * 1 * 2 < 2 ^ 4000 := Nat.lt_of_le_of_lt (show M * 1 * 2 ≤ M * 1099511627776 by omega) b1
  have bb : ∀ c : Nat, c ≤ B * 1099511627776 → c < 2 ^ 4000 := fun c hc => Nat.lt_of_le_of_lt hc b2
  have q4 : ∀ i, Fb (M * 1 * 2) (B * 33554432) ((prodR (trim (slopeP S)) D).getD i 0 + (byP (prodR S (trim (slopeP D))) (half2 1)).getD i 0) := fun i => (((q1 i).scale 2 (by decide)).add (q3 i) (by omega)).mono (by omega)
  refine ⟨{
    sD := d.sz
    sS := h.szl hM (lt4 hM2) (lt4 hB)
    lD := by omega
    lS := by omega
    p1 := prodOk_of hM (by decide) fS d.fl (by omega) (by omega) M1b (bb _ (by omega)) (lt4 hM2) (by decide) (bb _ (by omega)) (by decide)
    p2 := prodOk_of hM (by decide) h fD (by omega) (by omega) M1b (bb _ (by omega)) (lt4 hM2) (by decide) (lt4 hB) (by decide)
    s1 := q1.szl M1 M1b (bb _ (by omega))
    s2 := q2.szl M1 M1b (bb _ (by omega))
    s3 := q3.szl (by omega) M2b (bb _ (by omega))
    i1 := fun i => (slope_fb h (s := 32) (by omega) i).sz hM (lt4 hM2) (bb _ (by omega))
    i2 := fun i => (slope_fb d.fl (s := 16) (by omega) i).sz (by decide) (by decide) (by decide)
    i3 := fun i => ((q2 i).mul hm2).sz (by omega) M2b (bb _ (by omega))
    i4 := fun i => (q4 i).sz (by omega) M2b (bb _ (by omega)) }, fun i => ?_⟩
  unfold upL
  rw [sumP_get]
  exact q4 i
theorem one_get {m i : Nat} {q : Rat} : (oneQ m q).getD i 0 = if i = m then q else 0 := by
  unfold oneQ
  by_cases h : i < (List.replicate m (0 : Rat)).length
  · rw [app_getD h, rep_get, if_neg (by rw [List.length_replicate] at h; omega)]
  · rw [List.length_replicate] at h
    by_cases e : i = m
    · subst e
      rw [if_pos rfl]
      have := app_getD' (f := List.replicate i (0 : Rat)) (q := q)
      rw [List.length_replicate] at this
      exact this
    · rw [if_neg e, getD_ge (by rw [List.length_append, List.length_replicate, List.length_singleton]; omega)]
theorem up_one {m i : Nat} {q : Rat} : (upL D (oneQ m q)).getD i 0 = q * (powerSum D m).getD i 0 := by
  rw [upL_get]
  unfold US
  rw [sN_one (m := m) (fun p hp => by rw [one_get d, if_neg hp, Rat.zero_mul]) (by unfold oneQ; rw [List.length_append, List.length_replicate, List.length_singleton]; omega), one_get d, if_pos rfl]
theorem lstepOk_of {M B m : Nat} {l : List Rat} (hm : m ≤ 16) (hM : 0 < M) (hM2 : M < 2 ^ 1900) (hB : B < 2 ^ 1900) (h : FL M B l) (hl : l.length = nD D + m) : LStepOk D m l := by
  obtain ⟨h3, h9⟩ := d.len
  obtain ⟨hh, hh1, hh2, ehh⟩ := d.ln
  have p : (2 : Nat) ^ 1900 ≤ 2 ^ 2000 := by decide
  have so := stepOk_of d hm hM (Nat.lt_of_lt_of_le hM2 p) (Nat.lt_of_lt_of_le hB p) h hl
  obtain ⟨L, l1, l2, hq, _⟩ := step_fb d hm hM h
  have hML : M * L < 2 ^ 2000 := by
    refine Nat.lt_of_lt_of_le (pow20 d hM2 (show L ≤ 2 ^ 20 by omega) l1) (by decide)
  have fo : FL (M * L) B (oneQ m (stepQ D m l)) := fun i => by
    rw [one_get d]
    split
    · exact hq
    · exact Fb.zero
  have lo : (oneQ m (stepQ D m l)).length ≤ 20 := by unfold oneQ; rw [List.length_append, List.length_replicate, List.length_singleton]; omega
  obtain ⟨up, fu⟩ := upOk_of d (Nat.mul_pos hM l1) hML (Nat.lt_of_lt_of_le hB p) fo lo
  have b1 := big hML
  have b2 := big (Nat.lt_of_lt_of_le hB p)
  have M0 : 0 < M * L := Nat.mul_pos hM l1
  have M2b : M * L * 1 * 2 < 2 ^ 4000 := Nat.lt_of_le_of_lt (show M * L * 1 * 2 ≤ M * L * 1099511627776 by omega) b1
  have M3b : M * L * 1 * 2 * 1 < 2 ^ 4000 := Nat.lt_of_le_of_lt (show M * L * 1 * 2 * 1 ≤ M * L * 1099511627776 by omega) b1
  have bb : ∀ c : Nat, c ≤ B * 1099511627776 → c < 2 ^ 4000 := fun c hc => Nat.lt_of_le_of_lt hc b2
  have f1 : Fb 1 1 ((-1 : Int) : Rat) := Fb.int (by decide)
  have ful : ∀ i, l.getD i 0 + (byP (upL D (oneQ m (stepQ D m l))) ((-1 : Int) : Rat)).getD i 0 = (stepL D m l).getD i 0 := fun i => by
    rw [byP_get, up_one d, stepL_get d hl]
    have : (((-1 : Int)) : Rat) = -1 := rfl
    rw [this]
    grind
  have fst := (step_fb d hm hM h)
  exact {
    sl := so.sl
    h1 := by
      have e1 : half2 (nD D) + ((m : Int) : Rat) = (((hh + m : Nat) : Int) : Rat) := by
        rw [show nD D = 2 * hh by unfold nD; omega, half2_two, Int.natCast_add, Rat.intCast_add]
      rw [e1]
      exact Sz.nat (Nat.lt_of_le_of_lt (show hh + m ≤ 100 by omega) (by decide))
    h2 := by
      unfold Lq
      congr 1
      rw [show nD D = 2 * hh by unfold nD; omega, half2_two, show D.length / 2 = hh by omega, Rat.intCast_add]
    L := so.L
    L0 := so.L0
    q := so.q
    up := up
    su := fu.szl (by omega) M2b (bb _ (by omega))
    pu := fun i => ((fu i).mul f1).sz (by omega) M3b (bb _ (by omega))
    sb := (fu.by f1).szl (by omega) M3b (bb _ (by omega))
    ss := fun i => by
      rw [ful i]
      obtain ⟨L', k1, k2, _, hs⟩ := fst
      have hs := hs hl i
      refine hs.sz (Nat.mul_pos hM (by omega)) ?_ (bb _ (by omega))
      have : M * (L' * 2) ≤ M * 1099511627776 := Nat.mul_le_mul_left _ (by omega)
      exact Nat.lt_of_le_of_lt this (big (Nat.lt_of_lt_of_le hM2 p))
    ul := by
      unfold upL
      refine Nat.le_trans (trim_le _) ?_
      rw [mk_len]
      have a1 := prodR_len (trim (slopeP (oneQ m (stepQ D m l)))) D
      have a2 := prodR_len (oneQ m (stepQ D m l)) (trim (slopeP D))
      have a3 : (trim (slopeP (oneQ m (stepQ D m l)))).length ≤ 32 := Nat.le_trans (trim_le _) (by unfold slopeP; rw [mk_len]; omega)
      have a4 : (trim (slopeP D)).length ≤ 32 := Nat.le_trans (trim_le _) (by unfold slopeP; rw [mk_len]; omega)
      have a5 : (byP (prodR (oneQ m (stepQ D m l)) (trim (slopeP D))) (half2 1)).length ≤ (prodR (oneQ m (stepQ D m l)) (trim (slopeP D))).length := Nat.le_trans (trim_le _) (by rw [mk_len]; exact Nat.le_refl _)
      omega
    eq := by
      have : sumP l (byP (upL D (oneQ m (stepQ D m l))) ((-1 : Int) : Rat)) = trim (stepL D m l) := by
        unfold sumP
        refine trim_eq fun i => ?_
        rw [← ful i, mk_get']
        split
        · rfl
        · rw [getD_ge (qs := l) (by omega), getD_ge (qs := byP _ _) (by omega), Rat.add_zero]
      rw [this]
      exact trim_trim _
    sh := so.sh }
theorem lawTOk_of : ∀ (m e M B : Nat) (l : List Rat), m ≤ 17 → 0 < M → M < 2 ^ e → B < 2 ^ e → FL M B l → e + 20 * m ≤ 1900 → LawTOk D m l
  | 0, _, _, _, _, _, _, _, _, _, _ => trivial
  | m + 1, e, M, B, l, hm, hM, hM2, hB, h, he => by
    refine ⟨fun hl => ?_, fun _ => lawTOk_of m e M B l (by omega) hM hM2 hB h (by omega)⟩
    have p : (2 : Nat) ^ e ≤ 2 ^ 1900 := Nat.pow_le_pow_right (by decide) (by omega)
    refine ⟨lstepOk_of d (by omega) hM (Nat.lt_of_lt_of_le hM2 p) (Nat.lt_of_lt_of_le hB p) h hl, ?_⟩
    obtain ⟨L, l1, l2, _, hs⟩ := step_fb d (m := m) (by omega) hM h
    exact lawTOk_of m (e + 20) _ _ _ (by omega) (Nat.mul_pos hM (by omega)) (pow20 d hM2 (by omega) (by omega)) (pow20 d hB (by decide) (by decide)) (hs hl) (by omega)
end
end RR
-- RZ4
namespace RR
theorem sN_fb {M B : Nat} {f : Nat → Rat} (hM : 0 < M) : ∀ {n : Nat}, (∀ p, p < n → Fb M B (f p)) → Fb M (n * B) (sN f n)
  | 0, _ => Fb.zero
  | n + 1, h => by
    rw [Nat.succ_mul]
    exact (sN_fb hM fun p hp => h p (by omega)).add (h n (by omega)) hM
theorem eq_of_trim {a b : List Rat} (ha : trim a = a) (hb : trim b = b) (h : ∀ i, a.getD i 0 = b.getD i 0) : a = b := by
  rw [← ha, ← hb]
  exact trim_eq h
theorem trim_sumP (a b : List Rat) : trim (sumP a b) = sumP a b := trim_trim _
theorem map_mul {c : Rat} {a : List Rat} {i : Nat} : (a.map fun x => c * x).getD i 0 = c * a.getD i 0 := by
  by_cases h : i < a.length
  · exact map_getQ h
  · rw [getD_ge (by rw [List.length_map]; omega), getD_ge (qs := a) (by omega), Rat.mul_zero]
theorem sumP_len {a b : List Rat} {n : Nat} (ha : a.length ≤ n) (hb : b.length ≤ n) : (sumP a b).length ≤ n := by
  unfold sumP
  refine Nat.le_trans (trim_le _) ?_
  rw [mk_len]
  omega
/-- a row over one bottom, both of few bits -/
def Bd (e : Nat) (a : List Rat) : Prop := ∃ M B, 0 < M ∧ M < 2 ^ e ∧ B < 2 ^ e ∧ FL M B a
theorem Bd.up {e e' : Nat} {a : List Rat} (h : Bd e a) (he : e ≤ e') : Bd e' a := by
  obtain ⟨M, B, h0, h1, h2, h3⟩ := h
  have p : (2 : Nat) ^ e ≤ 2 ^ e' := Nat.pow_le_pow_right (by decide) he
  exact ⟨M, B, h0, Nat.lt_of_lt_of_le h1 p, Nat.lt_of_lt_of_le h2 p, h3⟩
theorem Bd.szl {e : Nat} {a : List Rat} (h : Bd e a) (he : e ≤ 2000) : SzL a := by
  obtain ⟨M, B, h0, h1, h2, h3⟩ := h.up he
  exact h3.szl h0 (lt4 h1) (lt4 h2)
theorem Bd.sum {e e' : Nat} {a b : List Rat} (h : Bd e a) (h' : Bd e' b) : Bd (e + e' + 1) (sumP a b) := by
  obtain ⟨M, B, h0, h1, h2, h3⟩ := h
  obtain ⟨M', B', g0, g1, g2, g3⟩ := h'
  have k : FL (M * M') (B * M' + B' * M) (sumP a b) := by
    refine FL.sum (h3.scale M' g0) ?_ (Nat.mul_pos h0 g0)
    rw [Nat.mul_comm M M']
    exact g3.scale M h0
  have m1 : M * M' < 2 ^ (e + e') := by rw [Nat.pow_add]; exact Nat.mul_lt_mul'' h1 g1
  have m2 : B * M' < 2 ^ (e + e') := by rw [Nat.pow_add]; exact Nat.mul_lt_mul'' h2 g1
  have m3 : B' * M < 2 ^ (e + e') := by rw [Nat.add_comm e e', Nat.pow_add]; exact Nat.mul_lt_mul'' g2 h1
  have m4 : 2 ^ (e + e' + 1) = 2 ^ (e + e') * 2 := Nat.pow_succ ..
  exact ⟨_, _, Nat.mul_pos h0 g0, by omega, by omega, k⟩
theorem Bd.trim {e : Nat} {a : List Rat} (h : Bd e a) : Bd e (RR.trim a) := let ⟨M, B, h0, h1, h2, h3⟩ := h; ⟨M, B, h0, h1, h2, h3.trim⟩
section
variable {D : List Rat} (d : DOk D)
include d
theorem sumOk_of {e : Nat} {S : List Rat} (h : Bd e S) (he : e ≤ 1900) (lS : S.length ≤ 14) : SumOk D S ∧ Bd (e + 40) (sumdF D S S.length) := by
  obtain ⟨h3, h9⟩ := d.len
  obtain ⟨M, B, h0, h1, h2, hf⟩ := h
  have p : (2 : Nat) ^ e ≤ 2 ^ 1900 := Nat.pow_le_pow_right (by decide) he
  have b1 := big (Nat.lt_of_lt_of_le (Nat.lt_of_lt_of_le h1 p) (show (2 : Nat) ^ 1900 ≤ 2 ^ 2000 by decide))
  have b2 := big (Nat.lt_of_lt_of_le (Nat.lt_of_lt_of_le h2 p) (show (2 : Nat) ^ 1900 ≤ 2 ^ 2000 by decide))
  have M2 : M * 2 < 2 ^ 4000 := Nat.lt_of_le_of_lt (show M * 2 ≤ M * 1099511627776 by omega) b1
  have tm : ∀ m i, m < S.length → Fb (M * 2) (B * 262144) (S.getD m 0 * (powerSum D m).getD i 0) := fun m i hm => (hf m).mul (ps_fl d m (by omega) i)
  have fs : ∀ m, m ≤ S.length → FL (M * 2) (m * (B * 262144)) (sumdF D S m) := fun m hm i => by
    rw [sumdF_get]
    exact sN_fb (by omega) fun q hq => tm q i (by omega)
  have ln : ∀ m, m ≤ S.length → (sumdF D S m).length ≤ 200 := fun m => by
    induction m with
    | zero => intro _; exact Nat.zero_le _
    | succ m ih =>
      intro hm
      show (if S.getD m 0 = 0 then _ else _ : List Rat).length ≤ 200
      split
      · exact ih (by omega)
      · refine sumP_len (ih (by omega)) ?_
        rw [List.length_map, powerSum_len (by omega)]
        unfold nD
        omega
  have bm : ∀ m, m ≤ S.length → m * (B * 262144) ≤ B * 1099511627776 := fun m hm => by
    have : m * (B * 262144) ≤ 14 * (B * 262144) := Nat.mul_le_mul_right _ (by omega)
    omega
  refine ⟨{
    d := d.sz
    ld := by omega
    ld1 := by omega
    s := hf.szl h0 (Nat.lt_of_le_of_lt (show M ≤ M * 1099511627776 by omega) b1) (Nat.lt_of_le_of_lt (show B ≤ B * 1099511627776 by omega) b2)
    ls := by omega
    ps := fun m hm => (ps_fl d m (by omega)).szl (by decide) (by decide) (by decide)
    tm := fun m hm i => by
      rw [map_mul]
      exact (tm m i hm).sz (by omega) M2 (Nat.lt_of_le_of_lt (show B * 262144 ≤ B * 1099511627776 by omega) b2)
    sm := fun m hm => ⟨(fs m hm).szl (by omega) M2 (Nat.lt_of_le_of_lt (bm m hm) b2), ln m hm⟩ }, _, _, by omega, ?_, ?_, fs _ (Nat.le_refl _)⟩
  · rw [Nat.pow_add]
    refine Nat.lt_of_lt_of_le (Nat.mul_lt_mul_of_pos_right h1 (by decide)) (Nat.mul_le_mul_left _ (by decide))
  · rw [Nat.pow_add]
    refine Nat.lt_of_le_of_lt (bm _ (Nat.le_refl _)) (Nat.mul_lt_mul_of_pos_right h2 (by decide))
theorem lawF_inv : ∀ (m e M B : Nat) (f l : List Rat), m ≤ 17 → 0 < M → M < 2 ^ e → B < 2 ^ e → FL M B f → FL M B l → trim l = l → l.length < nD D + m → m ≤ f.length → (∀ j, j < m → f.getD j 0 = 0) →
    (lawF D m f l).2.length < nD D ∧ trim (lawF D m f l).2 = (lawF D m f l).2 ∧ (lawF D m f l).1.length = f.length ∧
    (∀ i, sN (fun p => (lawF D m f l).1.getD p 0 * (powerSum D p).getD i 0) f.length + (lawF D m f l).2.getD i 0 = sN (fun p => f.getD p 0 * (powerSum D p).getD i 0) f.length + l.getD i 0) ∧
    Bd (e + 20 * m) (lawF D m f l).1 ∧ Bd (e + 20 * m) (lawF D m f l).2
  | 0, e, M, B, f, l, _, hM, hM2, hB, hf, hl, tl, sl, _, _ => ⟨sl, tl, rfl, fun i => rfl, ⟨M, B, hM, hM2, hB, hf⟩, ⟨M, B, hM, hM2, hB, hl⟩⟩
  | m + 1, e, M, B, f, l, hm, hM, hM2, hB, hf, hl, tl, sl, mf, hz => by
    by_cases hc : l.length = nD D + m
    · obtain ⟨L, l1, l2, hq, hs⟩ := step_fb d (m := m) (by omega) hM hl
      have hs := hs hc
      have hq2 : Fb (M * (L * 2)) (B * 524288) (stepQ D m l) := by
        have := hq.scale 2 (by decide)
        rw [Nat.mul_assoc] at this
        exact this.mono (by omega)
      have hf2 : FL (M * (L * 2)) (B * 524288) (f.set m (stepQ D m l)) := fun i => by
        rw [set_get]
        split
        · exact hq2
        · exact ((hf i).scale (L * 2) (by omega)).mono (Nat.mul_le_mul_left _ (by omega))
      have ih := lawF_inv m (e + 20) _ _ (f.set m (stepQ D m l)) (stepL D m l) (by omega) (Nat.mul_pos hM (by omega)) (pow20 d hM2 (by omega) (by omega)) (pow20 d hB (by decide) (by decide)) hf2 hs (trim_trim _) (step_short d (by omega) hc) (by rw [List.length_set]; omega) (fun j hj => by
        rw [set_get, if_neg (by omega)]
        exact hz j (by omega))
      have e1 : lawF D (m + 1) f l = lawF D m (f.set m (stepQ D m l)) (stepL D m l) := by
        show (if _ then _ else _) = _
        rw [if_pos hc]
      rw [e1]
      obtain ⟨a1, a2, a3, a4, a5, a6⟩ := ih
      rw [List.length_set] at a3 a4
      refine ⟨a1, a2, a3, fun i => ?_, a5.up (by omega), a6.up (by omega)⟩
      rw [a4 i, stepL_get d hc]
      have e2 : sN (fun p => (f.set m (stepQ D m l)).getD p 0 * (powerSum D p).getD i 0) f.length = sN (fun p => f.getD p 0 * (powerSum D p).getD i 0) f.length + stepQ D m l * (powerSum D m).getD i 0 := by
        refine sN_set (m := m) ?_ (fun p hp => ?_) (by omega)
        · show (f.set m _).getD m 0 * _ = f.getD m 0 * _ + _
          rw [set_getD (by omega), hz m (by omega), Rat.zero_mul, Rat.zero_add]
        · show (f.set m _).getD p 0 * _ = _
          rw [set_get, if_neg (fun z => hp z.1.symm)]
      rw [e2]
      grind
    · have e1 : lawF D (m + 1) f l = lawF D m f l := by
        show (if _ then _ else _) = _
        rw [if_neg hc]
      rw [e1]
      obtain ⟨a1, a2, a3, a4, a5, a6⟩ := lawF_inv m e M B f l (by omega) hM hM2 hB hf hl tl (by omega) (by omega) fun j hj => hz j (by omega)
      exact ⟨a1, a2, a3, a4, a5.up (by omega), a6.up (by omega)⟩
/-- what the taking off gives -/
structure Taken (D P : List Rat) : Prop where
  tak : TakOk D P
  ltak : LTakOk D P
  len : (takenF D P).2.length < nD D
  tr : trim (takenF D P).2 = (takenF D P).2
  fl : (takenF D P).1.length ≤ 16
  eq : ∀ i, US D (trim (takenF D P).1) i + (takenF D P).2.getD i 0 = P.getD i 0
  b1 : Bd 1000 (trim (takenF D P).1)
  b2 : Bd 1000 (takenF D P).2
theorem taken_of {e : Nat} {P : List Rat} (h : Bd e P) (he : e ≤ 600) (lP : P.length ≤ 14) (tP : trim P = P) : Taken D P := by
  obtain ⟨h3, h9⟩ := d.len
  obtain ⟨M, B, h0, h1, h2, hf⟩ := id h
  have hn : 2 ≤ nD D ∧ nD D ≤ 8 := by unfold nD; omega
  have hc : cnt D P ≤ 13 := by unfold cnt; omega
  have fz : FL M B (List.replicate (cnt D P) 0) := fun i => by rw [rep_get]; exact Fb.zero
  obtain ⟨a1, a2, a3, a4, a5, a6⟩ : (takenF D P).2.length < nD D ∧ trim (takenF D P).2 = (takenF D P).2 ∧ (takenF D P).1.length = cnt D P ∧
    (∀ i, sN (fun p => (takenF D P).1.getD p 0 * (powerSum D p).getD i 0) (cnt D P) + (takenF D P).2.getD i 0 = sN (fun p => (List.replicate (cnt D P) (0 : Rat)).getD p 0 * (powerSum D p).getD i 0) (cnt D P) + P.getD i 0) ∧
    Bd (e + 20 * cnt D P) (takenF D P).1 ∧ Bd (e + 20 * cnt D P) (takenF D P).2 := by
    have := lawF_inv d (cnt D P) e M B (List.replicate (cnt D P) 0) P (by omega) h0 h1 h2 fz hf tP (by unfold cnt; omega) (by rw [List.length_replicate]; exact Nat.le_refl _) (fun j _ => rep_get)
    rw [List.length_replicate] at this
    exact this
  refine {
    tak := ⟨d.sz, by omega, h.szl (by omega), by omega, lawOk_of d (cnt D P) e M B P (by omega) h0 h1 h2 hf (by omega)⟩
    ltak := ⟨d.sz, by omega, h.szl (by omega), by omega, lawTOk_of d (cnt D P) e M B P (by omega) h0 h1 h2 hf (by omega)⟩
    len := a1
    tr := a2
    fl := by omega
    eq := fun i => ?_
    b1 := (a5.up (by omega)).trim
    b2 := a6.up (by omega) }
  have e1 := a4 i
  rw [sN_zero (f := fun p => (List.replicate (cnt D P) (0 : Rat)).getD p 0 * (powerSum D p).getD i 0) (fun p _ => by rw [rep_get, Rat.zero_mul]), Rat.zero_add] at e1
  rw [← e1, US_ext (m := cnt D P) (by have := trim_le (takenF D P).1; omega)]
  congr 1
  exact sN_congr fun p _ => by rw [trim_get]
/-- there is one way only to write it so -/
theorem taken_uniq {P S w : List Rat} (t : Taken D P) (tS : trim S = S) (lS : S.length ≤ 16) (tw : trim w = w) (lw : w.length < nD D) (h : ∀ i, P.getD i 0 = US D S i + w.getD i 0) : trim (takenF D P).1 = S ∧ (takenF D P).2 = w := by
  obtain ⟨h3, h9⟩ := d.len
  have hn : 2 ≤ nD D := by unfold nD; omega
  have lf := Nat.le_trans (trim_le (takenF D P).1) t.fl
  have z : ∀ i, sN (fun p => (S.getD p 0 - (trim (takenF D P).1).getD p 0) * (powerSum D p).getD i 0) 16 + (w.getD i 0 - (takenF D P).2.getD i 0) = 0 := fun i => by
    have e1 : sN (fun p => (S.getD p 0 - (trim (takenF D P).1).getD p 0) * (powerSum D p).getD i 0) 16 = US D S i + US D (trim (takenF D P).1) i * (-1) := by
      rw [US_ext (S := S) (m := 16) lS, US_ext (S := trim (takenF D P).1) (m := 16) lf, ← sN_mul, ← sN_add]
      exact sN_congr fun p _ => by grind
    have e2 := h i
    have e3 := t.eq i
    rw [e1]
    grind
  have dz : ∀ k p, 16 ≤ p + k → S.getD p 0 - (trim (takenF D P).1).getD p 0 = 0 := fun k => by
    induction k with
    | zero =>
      intro p hp
      rw [getD_ge (by omega), getD_ge (by omega)]
      grind
    | succ k ih =>
      intro p hp
      by_cases hp2 : 16 ≤ p + k
      · exact ih p hp2
      have zi := z (nD D + p - 1)
      rw [sN_one (m := p) (fun q hq => ?_) (by omega), ps_top d, getD_ge (qs := w) (by omega), getD_ge (qs := (takenF D P).2) (by have := t.len; omega)] at zi
      · have lne := lq_ne d p (by omega)
        have z2 : (S.getD p 0 - (trim (takenF D P).1).getD p 0) * Lq D p = 0 := by grind
        rcases Rat.mul_eq_zero.mp z2 with h | h
        · exact h
        · exact absurd h lne
      · rcases Nat.lt_or_gt_of_ne hq with h1 | h1
        · rw [ps_ge (by omega) (by omega), Rat.mul_zero]
        · rw [ih q (by omega), Rat.zero_mul]
  have sf : ∀ p, (trim (takenF D P).1).getD p 0 = S.getD p 0 := fun p => by
    have := dz 16 p (by omega)
    grind
  have e1 : trim (takenF D P).1 = S := eq_of_trim (trim_trim _) tS sf
  refine ⟨e1, eq_of_trim t.tr tw fun i => ?_⟩
  have e2 := h i
  have e3 := t.eq i
  rw [e1] at e3
  grind
theorem back {P : List Rat} (t : Taken D P) (tP : trim P = P) : sumP (sumdF D (trim (takenF D P).1) (trim (takenF D P).1).length) (takenF D P).2 = P := by
  refine eq_of_trim (trim_sumP _ _) tP fun i => ?_
  rw [sumP_get, sumdF_get]
  exact t.eq i
theorem backL {P : List Rat} (t : Taken D P) (tP : trim P = P) : sumP (upL D (trim (takenF D P).1)) (takenF D P).2 = P := by
  refine eq_of_trim (trim_sumP _ _) tP fun i => ?_
  rw [sumP_get, upL_get]
  exact t.eq i
theorem up_len {S : List Rat} (hS : S.length ≤ 3) : (upL D S).length ≤ 11 := by
  obtain ⟨h3, h9⟩ := d.len
  unfold upL
  have a1 := prodR_len (trim (slopeP S)) D
  have a2 := prodR_len S (trim (slopeP D))
  have a3 : (trim (slopeP S)).length ≤ 2 := Nat.le_trans (trim_le _) (by unfold slopeP; rw [mk_len]; omega)
  have a4 : (trim (slopeP D)).length ≤ 8 := Nat.le_trans (trim_le _) (by unfold slopeP; rw [mk_len]; omega)
  have a5 : (byP (prodR S (trim (slopeP D))) (half2 1)).length ≤ (prodR S (trim (slopeP D))).length := Nat.le_trans (trim_le _) (by rw [mk_len]; exact Nat.le_refl _)
  exact sumP_len (by omega) (by omega)
end
end RR
-- RZ5
namespace RR
/-! ### the roots' polynomials -/
def q (i : Int) : Rat := (i : Rat)
def pow2D (p : List Rat) (c : Int) : List Rat := sumP (prodR p p) (trim [q (0 - c)])
def lineB (a b e : Int) : Int := if b = a * e then b + 1 else b
def lineX (a b e : Int) : Rat := Rat.divInt (0 - a * e - 2 * b) (3 * a)
def lineB2 (a b e : Int) : Int := if (lineX a b e * q a + q b) * (lineX a b e + q e) * (lineX a b e + q e) = q 2 then b + 9 else b
def lineD (a b e : Int) : List Rat := prodR (trim [q b, q a]) (sumP (prodR (trim [q b, q a]) (prodR (trim [q e, q 1]) (trim [q e, q 1]))) (trim [q (-2)]))
def lineF (a b e : Int) : List Rat := lineD a (lineB2 a (lineB a b e) e) e
def cub (c a b : Int) : Int := if 27 * a * c ≠ 0 - 4 * b * b * b then c else c + 7
def qua (c a b e : Int) : Int := if (b * b - 4 * a * e) * (b * b - 4 * a * e) ≠ 16 * a * a * c then c else c + 7
def madeD (kind c a b e : Int) : List Rat :=
  if kind = 0 then pow2D (trim [q b, q a]) c
  else if kind = 3 then pow2D (trim [q 0, q b, q 0, q a]) (cub c a b)
  else if kind = 1 then pow2D (trim [q e, q b, q a]) (qua c a b e)
  else lineF a b e
def neverD (l0 l1 n : Int) : List Rat :=
  byP (sumP (sumP (prodR (prodR (trim [q l0, q l1]) (trim [q l0, q l1])) (prodR (trim [q l0, q l1]) (trim [q l0, q l1]))) (trim [q l0, q l1])) (trim [q 1])) (q (n * n))
def inter : List Rat → List Rat
  | [] => []
  | x :: r => x :: 0 :: inter r
def doubleD (D : List Rat) : List Rat := if D.getD 0 0 ≠ 0 ∧ D.length < 6 then (inter D).dropLast else D
/-! ### what is looked at of each -/
def szB (a : List Rat) : Bool := a.all szq
theorem szB_ok {a : List Rat} (h : szB a = true) : SzL a := fun i => by
  rw [List.getD_eq_getElem?_getD]
  cases e : a[i]? with
  | none => exact Sz.zero
  | some x => exact szq_ok (List.all_eq_true.mp h x (List.mem_of_getElem? e))
def isq (n : Nat) : Nat := (List.range 40).find? (fun r => r * r == n) |>.getD 0
def rootB (a : List Rat) : Bool :=
  decide (trim a = a) && ((decide (a.length = 3) || decide (a.length = 5) || decide (a.length = 7) || decide (a.length = 9)) &&
  (a.all (fun x => decide (x.den = 1) && decide (x.num.natAbs ≤ 4096)) &&
  (decide (lcmQ a < 2 ^ 64) && (decide (lcmQ (slopeP a) < 2 ^ 64) && (biB (topsQ a) && (biB (topsQ (slopeP a)) && (szB (slopeP a) &&
  ((match commF 60 (plainRow (topsQ a)) (plainRow (topsQ (slopeP a))) with
    | none => false
    | some out => decide (out.length ≤ 1) && (decide (lastI out ≠ 0) && decide ((lastI out).natAbs < 2 ^ 4000))) &&
  (decide (1 ≤ isq (leadQ a).num.natAbs) && (decide (leadQ a = ((((isq (leadQ a).num.natAbs : Nat) : Int) * ((isq (leadQ a).num.natAbs : Nat) : Int) : Int) : Rat)) &&
  match numF a ((((isq (leadQ a).num.natAbs : Nat) : Int)) : Rat) (a.length / 2) with
    | none => false
    | some f => szB f.reverse && (decide (lcmQ f.reverse < 2 ^ 64) && (biB (topsQ f.reverse) && (szB (prodQ f.reverse f.reverse) && szB (byP (prodQ f.reverse f.reverse) ((-1 : Int) : Rat)))))))))))))))
def kinds : List Int := [0, 1, 2, 3]
def cs : List Int := [1, -1, 2, 3, -4, 4, 5]
def as : List Int := [1, 2]
def bs : List Int := [-2, -1, 0, 1, 2]
end RR
set_option maxHeartbeats 0
-- RZ6
namespace RR
def tab0 : List (List Int) := [[3, -4, 1], [0, -2, 1], [-1, 0, 1], [0, 2, 1], [3, 4, 1], [3, -8, 4], [0, -4, 4], [-1, 0, 4], [0, 4, 4], [3, 8, 4], [5, -4, 1], [2, -2, 1], [1, 0, 1], [2, 2, 1], [5, 4, 1], [5, -8, 4], [2, -4, 4], [1, 0, 4], [2, 4, 4], [5, 8, 4], [2, -4, 1], [-1, -2, 1], [-2, 0, 1], [-1, 2, 1], [2, 4, 1], [2, -8, 4], [-1, -4, 4], [-2, 0, 4], [-1, 4, 4], [2, 8, 4], [1, -4, 1], [-2, -2, 1], [-3, 0, 1], [-2, 2, 1], [1, 4, 1], [1, -8, 4], [-2, -4, 4], [-3, 0, 4], [-2, 4, 4], [1, 8, 4], [8, -4, 1], [5, -2, 1], [4, 0, 1], [5, 2, 1], [8, 4, 1], [8, -8, 4], [5, -4, 4], [4, 0, 4], [5, 4, 4], [8, 8, 4], [0, -4, 1], [-3, -2, 1], [-4, 0, 1], [-3, 2, 1], [0, 4, 1], [0, -8, 4], [-3, -4, 4], [-4, 0, 4], [-3, 4, 4], [0, 8, 4], [-1, -4, 1], [-4, -2, 1], [-5, 0, 1], [-4, 2, 1], [-1, 4, 1], [-1, -8, 4], [-4, -4, 4], [-5, 0, 4], [-4, 4, 4], [-1, 8, 4]]
def tab3 : List (List Int) := [[-1, 0, 4, 0, -4, 0, 1], [-1, 0, 1, 0, -2, 0, 1], [-1, 0, 0, 0, 0, 0, 1], [-1, 0, 1, 0, 2, 0, 1], [-1, 0, 4, 0, 4, 0, 1], [-1, 0, 4, 0, -8, 0, 4], [-1, 0, 1, 0, -4, 0, 4], [-1, 0, 0, 0, 0, 0, 4], [-1, 0, 1, 0, 4, 0, 4], [-1, 0, 4, 0, 8, 0, 4], [1, 0, 4, 0, -4, 0, 1], [1, 0, 1, 0, -2, 0, 1], [1, 0, 0, 0, 0, 0, 1], [1, 0, 1, 0, 2, 0, 1], [1, 0, 4, 0, 4, 0, 1], [1, 0, 4, 0, -8, 0, 4], [1, 0, 1, 0, -4, 0, 4], [1, 0, 0, 0, 0, 0, 4], [1, 0, 1, 0, 4, 0, 4], [1, 0, 4, 0, 8, 0, 4], [-2, 0, 4, 0, -4, 0, 1], [-2, 0, 1, 0, -2, 0, 1], [-2, 0, 0, 0, 0, 0, 1], [-2, 0, 1, 0, 2, 0, 1], [-2, 0, 4, 0, 4, 0, 1], [-2, 0, 4, 0, -8, 0, 4], [-2, 0, 1, 0, -4, 0, 4], [-2, 0, 0, 0, 0, 0, 4], [-2, 0, 1, 0, 4, 0, 4], [-2, 0, 4, 0, 8, 0, 4], [-3, 0, 4, 0, -4, 0, 1], [-3, 0, 1, 0, -2, 0, 1], [-3, 0, 0, 0, 0, 0, 1], [-3, 0, 1, 0, 2, 0, 1], [-3, 0, 4, 0, 4, 0, 1], [-3, 0, 4, 0, -8, 0, 4], [-3, 0, 1, 0, -4, 0, 4], [-3, 0, 0, 0, 0, 0, 4], [-3, 0, 1, 0, 4, 0, 4], [-3, 0, 4, 0, 8, 0, 4], [4, 0, 4, 0, -4, 0, 1], [4, 0, 1, 0, -2, 0, 1], [4, 0, 0, 0, 0, 0, 1], [4, 0, 1, 0, 2, 0, 1], [4, 0, 4, 0, 4, 0, 1], [4, 0, 4, 0, -8, 0, 4], [4, 0, 1, 0, -4, 0, 4], [4, 0, 0, 0, 0, 0, 4], [4, 0, 1, 0, 4, 0, 4], [4, 0, 4, 0, 8, 0, 4], [-4, 0, 4, 0, -4, 0, 1], [-4, 0, 1, 0, -2, 0, 1], [-4, 0, 0, 0, 0, 0, 1], [-4, 0, 1, 0, 2, 0, 1], [-4, 0, 4, 0, 4, 0, 1], [-4, 0, 4, 0, -8, 0, 4], [-4, 0, 1, 0, -4, 0, 4], [-4, 0, 0, 0, 0, 0, 4], [-4, 0, 1, 0, 4, 0, 4], [-4, 0, 4, 0, 8, 0, 4], [-5, 0, 4, 0, -4, 0, 1], [-5, 0, 1, 0, -2, 0, 1], [-5, 0, 0, 0, 0, 0, 1], [-5, 0, 1, 0, 2, 0, 1], [-5, 0, 4, 0, 4, 0, 1], [-5, 0, 4, 0, -8, 0, 4], [-5, 0, 1, 0, -4, 0, 4], [-5, 0, 0, 0, 0, 0, 4], [-5, 0, 1, 0, 4, 0, 4], [-5, 0, 4, 0, 8, 0, 4]]
def tab1_0 : List (List Int) := [[3, 8, 0, -4, 1], [0, 4, 2, -4, 1], [-8, 0, 4, -4, 1], [0, -4, 6, -4, 1], [-4, -8, 8, -4, 1], [3, 4, -3, -2, 1], [0, 2, -1, -2, 1], [-1, 0, 1, -2, 1], [0, -2, 3, -2, 1], [3, -4, 5, -2, 1], [3, 0, -4, 0, 1], [-7, 0, -2, 0, 1], [-1, 0, 0, 0, 1], [-7, 0, 2, 0, 1], [3, 0, 4, 0, 1], [3, -4, -3, 2, 1], [0, -2, -1, 2, 1], [-1, 0, 1, 2, 1], [0, 2, 3, 2, 1], [3, 4, 5, 2, 1], [3, -8, 0, 4, 1], [0, -4, 2, 4, 1], [-8, 0, 4, 4, 1], [0, 4, 6, 4, 1], [-4, 8, 8, 4, 1], [3, 8, -4, -8, 4], [0, 4, 0, -8, 4], [-1, 0, 4, -8, 4], [0, -4, 8, -8, 4], [3, -8, 12, -8, 4], [3, 4, -7, -4, 4], [0, 2, -3, -4, 4], [-1, 0, 1, -4, 4], [0, -2, 5, -4, 4], [3, -4, 9, -4, 4], [3, 0, -8, 0, 4], [-7, 0, -4, 0, 4], [-1, 0, 0, 0, 4], [-7, 0, 4, 0, 4], [3, 0, 8, 0, 4], [3, -4, -7, 4, 4], [0, -2, -3, 4, 4], [-1, 0, 1, 4, 4], [0, 2, 5, 4, 4], [3, 4, 9, 4, 4], [3, -8, -4, 8, 4], [0, -4, 0, 8, 4], [-1, 0, 4, 8, 4], [0, 4, 8, 8, 4], [3, 8, 12, 8, 4]]
def tab1_1 : List (List Int) := [[5, 8, 0, -4, 1], [2, 4, 2, -4, 1], [1, 0, 4, -4, 1], [2, -4, 6, -4, 1], [5, -8, 8, -4, 1], [5, 4, -3, -2, 1], [2, 2, -1, -2, 1], [1, 0, 1, -2, 1], [2, -2, 3, -2, 1], [5, -4, 5, -2, 1], [5, 0, -4, 0, 1], [2, 0, -2, 0, 1], [1, 0, 0, 0, 1], [2, 0, 2, 0, 1], [5, 0, 4, 0, 1], [5, -4, -3, 2, 1], [2, -2, -1, 2, 1], [1, 0, 1, 2, 1], [2, 2, 3, 2, 1], [5, 4, 5, 2, 1], [5, -8, 0, 4, 1], [2, -4, 2, 4, 1], [1, 0, 4, 4, 1], [2, 4, 6, 4, 1], [5, 8, 8, 4, 1], [5, 8, -4, -8, 4], [2, 4, 0, -8, 4], [1, 0, 4, -8, 4], [2, -4, 8, -8, 4], [5, -8, 12, -8, 4], [5, 4, -7, -4, 4], [2, 2, -3, -4, 4], [1, 0, 1, -4, 4], [2, -2, 5, -4, 4], [5, -4, 9, -4, 4], [5, 0, -8, 0, 4], [2, 0, -4, 0, 4], [1, 0, 0, 0, 4], [2, 0, 4, 0, 4], [5, 0, 8, 0, 4], [5, -4, -7, 4, 4], [2, -2, -3, 4, 4], [1, 0, 1, 4, 4], [2, 2, 5, 4, 4], [5, 4, 9, 4, 4], [5, -8, -4, 8, 4], [2, -4, 0, 8, 4], [1, 0, 4, 8, 4], [2, 4, 8, 8, 4], [5, 8, 12, 8, 4]]
def tab1_2 : List (List Int) := [[2, 8, 0, -4, 1], [-1, 4, 2, -4, 1], [-2, 0, 4, -4, 1], [-1, -4, 6, -4, 1], [2, -8, 8, -4, 1], [2, 4, -3, -2, 1], [-1, 2, -1, -2, 1], [-2, 0, 1, -2, 1], [-1, -2, 3, -2, 1], [2, -4, 5, -2, 1], [2, 0, -4, 0, 1], [-1, 0, -2, 0, 1], [-2, 0, 0, 0, 1], [-1, 0, 2, 0, 1], [2, 0, 4, 0, 1], [2, -4, -3, 2, 1], [-1, -2, -1, 2, 1], [-2, 0, 1, 2, 1], [-1, 2, 3, 2, 1], [2, 4, 5, 2, 1], [2, -8, 0, 4, 1], [-1, -4, 2, 4, 1], [-2, 0, 4, 4, 1], [-1, 4, 6, 4, 1], [2, 8, 8, 4, 1], [2, 8, -4, -8, 4], [-1, 4, 0, -8, 4], [-2, 0, 4, -8, 4], [-1, -4, 8, -8, 4], [2, -8, 12, -8, 4], [2, 4, -7, -4, 4], [-1, 2, -3, -4, 4], [-2, 0, 1, -4, 4], [-1, -2, 5, -4, 4], [2, -4, 9, -4, 4], [2, 0, -8, 0, 4], [-1, 0, -4, 0, 4], [-2, 0, 0, 0, 4], [-1, 0, 4, 0, 4], [2, 0, 8, 0, 4], [2, -4, -7, 4, 4], [-1, -2, -3, 4, 4], [-2, 0, 1, 4, 4], [-1, 2, 5, 4, 4], [2, 4, 9, 4, 4], [2, -8, -4, 8, 4], [-1, -4, 0, 8, 4], [-2, 0, 4, 8, 4], [-1, 4, 8, 8, 4], [2, 8, 12, 8, 4]]
def tab1_3 : List (List Int) := [[1, 8, 0, -4, 1], [-2, 4, 2, -4, 1], [-3, 0, 4, -4, 1], [-2, -4, 6, -4, 1], [1, -8, 8, -4, 1], [1, 4, -3, -2, 1], [-2, 2, -1, -2, 1], [-3, 0, 1, -2, 1], [-2, -2, 3, -2, 1], [1, -4, 5, -2, 1], [1, 0, -4, 0, 1], [-2, 0, -2, 0, 1], [-3, 0, 0, 0, 1], [-2, 0, 2, 0, 1], [1, 0, 4, 0, 1], [1, -4, -3, 2, 1], [-2, -2, -1, 2, 1], [-3, 0, 1, 2, 1], [-2, 2, 3, 2, 1], [1, 4, 5, 2, 1], [1, -8, 0, 4, 1], [-2, -4, 2, 4, 1], [-3, 0, 4, 4, 1], [-2, 4, 6, 4, 1], [1, 8, 8, 4, 1], [1, 8, -4, -8, 4], [-2, 4, 0, -8, 4], [-3, 0, 4, -8, 4], [-2, -4, 8, -8, 4], [1, -8, 12, -8, 4], [1, 4, -7, -4, 4], [-2, 2, -3, -4, 4], [-3, 0, 1, -4, 4], [-2, -2, 5, -4, 4], [1, -4, 9, -4, 4], [1, 0, -8, 0, 4], [-2, 0, -4, 0, 4], [-3, 0, 0, 0, 4], [-2, 0, 4, 0, 4], [1, 0, 8, 0, 4], [1, -4, -7, 4, 4], [-2, -2, -3, 4, 4], [-3, 0, 1, 4, 4], [-2, 2, 5, 4, 4], [1, 4, 9, 4, 4], [1, -8, -4, 8, 4], [-2, -4, 0, 8, 4], [-3, 0, 4, 8, 4], [-2, 4, 8, 8, 4], [1, 8, 12, 8, 4]]
def tab1_4 : List (List Int) := [[8, 8, 0, -4, 1], [5, 4, 2, -4, 1], [4, 0, 4, -4, 1], [5, -4, 6, -4, 1], [8, -8, 8, -4, 1], [8, 4, -3, -2, 1], [5, 2, -1, -2, 1], [4, 0, 1, -2, 1], [5, -2, 3, -2, 1], [8, -4, 5, -2, 1], [8, 0, -4, 0, 1], [5, 0, -2, 0, 1], [4, 0, 0, 0, 1], [5, 0, 2, 0, 1], [8, 0, 4, 0, 1], [8, -4, -3, 2, 1], [5, -2, -1, 2, 1], [4, 0, 1, 2, 1], [5, 2, 3, 2, 1], [8, 4, 5, 2, 1], [8, -8, 0, 4, 1], [5, -4, 2, 4, 1], [4, 0, 4, 4, 1], [5, 4, 6, 4, 1], [8, 8, 8, 4, 1], [8, 8, -4, -8, 4], [5, 4, 0, -8, 4], [4, 0, 4, -8, 4], [5, -4, 8, -8, 4], [8, -8, 12, -8, 4], [8, 4, -7, -4, 4], [5, 2, -3, -4, 4], [4, 0, 1, -4, 4], [5, -2, 5, -4, 4], [8, -4, 9, -4, 4], [8, 0, -8, 0, 4], [5, 0, -4, 0, 4], [4, 0, 0, 0, 4], [5, 0, 4, 0, 4], [8, 0, 8, 0, 4], [8, -4, -7, 4, 4], [5, -2, -3, 4, 4], [4, 0, 1, 4, 4], [5, 2, 5, 4, 4], [8, 4, 9, 4, 4], [8, -8, -4, 8, 4], [5, -4, 0, 8, 4], [4, 0, 4, 8, 4], [5, 4, 8, 8, 4], [8, 8, 12, 8, 4]]
def tab1_5 : List (List Int) := [[0, 8, 0, -4, 1], [-10, 4, 2, -4, 1], [-4, 0, 4, -4, 1], [-3, -4, 6, -4, 1], [0, -8, 8, -4, 1], [0, 4, -3, -2, 1], [-3, 2, -1, -2, 1], [-4, 0, 1, -2, 1], [-3, -2, 3, -2, 1], [0, -4, 5, -2, 1], [-7, 0, -4, 0, 1], [-3, 0, -2, 0, 1], [-4, 0, 0, 0, 1], [-3, 0, 2, 0, 1], [-7, 0, 4, 0, 1], [0, -4, -3, 2, 1], [-3, -2, -1, 2, 1], [-4, 0, 1, 2, 1], [-3, 2, 3, 2, 1], [0, 4, 5, 2, 1], [0, -8, 0, 4, 1], [-10, -4, 2, 4, 1], [-4, 0, 4, 4, 1], [-3, 4, 6, 4, 1], [0, 8, 8, 4, 1], [0, 8, -4, -8, 4], [-3, 4, 0, -8, 4], [-4, 0, 4, -8, 4], [-3, -4, 8, -8, 4], [0, -8, 12, -8, 4], [0, 4, -7, -4, 4], [-3, 2, -3, -4, 4], [-4, 0, 1, -4, 4], [-3, -2, 5, -4, 4], [0, -4, 9, -4, 4], [-7, 0, -8, 0, 4], [-3, 0, -4, 0, 4], [-4, 0, 0, 0, 4], [-3, 0, 4, 0, 4], [-7, 0, 8, 0, 4], [0, -4, -7, 4, 4], [-3, -2, -3, 4, 4], [-4, 0, 1, 4, 4], [-3, 2, 5, 4, 4], [0, 4, 9, 4, 4], [0, -8, -4, 8, 4], [-3, -4, 0, 8, 4], [-4, 0, 4, 8, 4], [-3, 4, 8, 8, 4], [0, 8, 12, 8, 4]]
def tab1_6 : List (List Int) := [[-1, 8, 0, -4, 1], [-4, 4, 2, -4, 1], [-5, 0, 4, -4, 1], [-4, -4, 6, -4, 1], [-1, -8, 8, -4, 1], [-1, 4, -3, -2, 1], [-4, 2, -1, -2, 1], [-5, 0, 1, -2, 1], [-4, -2, 3, -2, 1], [-1, -4, 5, -2, 1], [-1, 0, -4, 0, 1], [-4, 0, -2, 0, 1], [-5, 0, 0, 0, 1], [-4, 0, 2, 0, 1], [-1, 0, 4, 0, 1], [-1, -4, -3, 2, 1], [-4, -2, -1, 2, 1], [-5, 0, 1, 2, 1], [-4, 2, 3, 2, 1], [-1, 4, 5, 2, 1], [-1, -8, 0, 4, 1], [-4, -4, 2, 4, 1], [-5, 0, 4, 4, 1], [-4, 4, 6, 4, 1], [-1, 8, 8, 4, 1], [-1, 8, -4, -8, 4], [-4, 4, 0, -8, 4], [-5, 0, 4, -8, 4], [-4, -4, 8, -8, 4], [-1, -8, 12, -8, 4], [-1, 4, -7, -4, 4], [-4, 2, -3, -4, 4], [-5, 0, 1, -4, 4], [-4, -2, 5, -4, 4], [-1, -4, 9, -4, 4], [-1, 0, -8, 0, 4], [-4, 0, -4, 0, 4], [-5, 0, 0, 0, 4], [-4, 0, 4, 0, 4], [-1, 0, 8, 0, 4], [-1, -4, -7, 4, 4], [-4, -2, -3, 4, 4], [-5, 0, 1, 4, 4], [-4, 2, 5, 4, 4], [-1, 4, 9, 4, 4], [-1, -8, -4, 8, 4], [-4, -4, 0, 8, 4], [-5, 0, 4, 8, 4], [-4, 4, 8, 8, 4], [-1, 8, 12, 8, 4]]
def tab2 : List (List Int) := [[6, -14, 13, -6, 1], [8, -14, 13, -6, 1], [4, -2, 4, -4, 1], [8, 2, -3, -2, 1], [20, -2, -8, 0, 1], [6, -14, 13, -6, 1], [0, -2, 1, -2, 1], [2, -2, 1, -2, 1], [3, -2, -2, 0, 1], [6, -6, -3, 2, 1], [0, -2, 4, -4, 1], [0, -2, 1, -2, 1], [-2, -2, 1, 2, 1], [0, -2, 1, 2, 1], [0, -2, 4, 4, 1], [2, 2, -3, -2, 1], [-1, -2, -2, 0, 1], [-2, -2, 1, 2, 1], [0, 10, 13, 6, 1], [2, 10, 13, 6, 1], [12, -2, -8, 0, 1], [0, -6, -3, 2, 1], [-4, -2, 4, 4, 1], [0, 10, 13, 6, 1], [30, 58, 37, 10, 1], [20, -52, 52, -24, 4], [3, -10, 13, -12, 4], [4, -4, 4, -8, 4], [8, -4, -8, 0, 4], [20, -20, -12, 8, 4], [6, -24, 33, -20, 4], [3, -10, 13, -12, 4], [2, -4, 1, -4, 4], [3, -6, -3, 4, 4], [6, -16, 1, 12, 4], [0, -4, 16, -16, 4], [0, -4, 4, -8, 4], [-2, -4, 1, 4, 4], [0, -4, 4, 8, 4], [0, -4, 16, 16, 4], [2, 8, 1, -12, 4], [-1, -2, -3, -4, 4], [-2, -4, 1, 4, 4], [-1, 2, 13, 12, 4], [2, 16, 33, 20, 4], [12, 12, -12, -8, 4], [0, -4, -8, 0, 4], [-4, -4, 4, 8, 4], [3, 26, 37, 20, 4], [12, 44, 52, 24, 4]]
def tabn : List (List Int) := [[15, -31, 24, -8, 1], [60, -124, 96, -32, 4], [135, -279, 216, -72, 9], [15, 31, 24, 8, 1], [60, 124, 96, 32, 4], [135, 279, 216, 72, 9], [15, -62, 96, -64, 16], [60, -248, 384, -256, 64], [135, -558, 864, -576, 144], [1, -3, 6, -4, 1], [4, -12, 24, -16, 4], [9, -27, 54, -36, 9], [1, 3, 6, 4, 1], [4, 12, 24, 16, 4], [9, 27, 54, 36, 9], [1, -6, 24, -32, 16], [4, -24, 96, -128, 64], [9, -54, 216, -288, 144], [1, 1, 0, 0, 1], [4, 4, 0, 0, 4], [9, 9, 0, 0, 9], [1, -1, 0, 0, 1], [4, -4, 0, 0, 4], [9, -9, 0, 0, 9], [1, 2, 0, 0, 16], [4, 8, 0, 0, 64], [9, 18, 0, 0, 144], [3, 5, 6, 4, 1], [12, 20, 24, 16, 4], [27, 45, 54, 36, 9], [3, -5, 6, -4, 1], [12, -20, 24, -16, 4], [27, -45, 54, -36, 9], [3, 10, 24, 32, 16], [12, 40, 96, 128, 64], [27, 90, 216, 288, 144], [19, 33, 24, 8, 1], [76, 132, 96, 32, 4], [171, 297, 216, 72, 9], [19, -33, 24, -8, 1], [76, -132, 96, -32, 4], [171, -297, 216, -72, 9], [19, 66, 96, 64, 16], [76, 264, 384, 256, 64], [171, 594, 864, 576, 144]]
def chkB (t : List (List Int)) : Bool := t.all fun l => rootB (l.map q) && rootB (doubleD (l.map q))
theorem e0 : (cs.flatMap fun c => as.flatMap fun a => bs.map fun b => madeD 0 c a b 0) = tab0.map (·.map q) := by decide +kernel
theorem e3 : (cs.flatMap fun c => as.flatMap fun a => bs.map fun b => madeD 3 c a b 0) = tab3.map (·.map q) := by decide +kernel
theorem e1_0 : (as.flatMap fun a => bs.flatMap fun b => bs.map fun e => madeD 1 (1) a b e) = tab1_0.map (·.map q) := by decide +kernel
theorem e1_1 : (as.flatMap fun a => bs.flatMap fun b => bs.map fun e => madeD 1 (-1) a b e) = tab1_1.map (·.map q) := by decide +kernel
theorem e1_2 : (as.flatMap fun a => bs.flatMap fun b => bs.map fun e => madeD 1 (2) a b e) = tab1_2.map (·.map q) := by decide +kernel
theorem e1_3 : (as.flatMap fun a => bs.flatMap fun b => bs.map fun e => madeD 1 (3) a b e) = tab1_3.map (·.map q) := by decide +kernel
theorem e1_4 : (as.flatMap fun a => bs.flatMap fun b => bs.map fun e => madeD 1 (-4) a b e) = tab1_4.map (·.map q) := by decide +kernel
theorem e1_5 : (as.flatMap fun a => bs.flatMap fun b => bs.map fun e => madeD 1 (4) a b e) = tab1_5.map (·.map q) := by decide +kernel
theorem e1_6 : (as.flatMap fun a => bs.flatMap fun b => bs.map fun e => madeD 1 (5) a b e) = tab1_6.map (·.map q) := by decide +kernel
theorem e2 : (as.flatMap fun a => bs.flatMap fun b => bs.map fun e => madeD 2 0 a b e) = tab2.map (·.map q) := by decide +kernel
theorem en : (bs.flatMap fun a => ([1, -1, 2] : List Int).flatMap fun b => ([1, 2, 3] : List Int).map fun e => neverD a b e) = tabn.map (·.map q) := by decide +kernel
theorem k0 : chkB tab0 = true := by decide +kernel
theorem k3 : chkB tab3 = true := by decide +kernel
theorem k1_0 : chkB tab1_0 = true := by decide +kernel
theorem k1_1 : chkB tab1_1 = true := by decide +kernel
theorem k1_2 : chkB tab1_2 = true := by decide +kernel
theorem k1_3 : chkB tab1_3 = true := by decide +kernel
theorem k1_4 : chkB tab1_4 = true := by decide +kernel
theorem k1_5 : chkB tab1_5 = true := by decide +kernel
theorem k1_6 : chkB tab1_6 = true := by decide +kernel
theorem k2 : chkB tab2 = true := by decide +kernel
theorem kn : (tabn.all fun l => rootB (l.map q)) = true := by decide +kernel
end RR
set_option maxHeartbeats 2000000
-- RZ7
namespace RR
/-- a polynomial that Root takes, and that is small -/
structure Good (D : List Rat) : Prop where
  root : RootOk D
  d : DOk D
theorem band {a b : Bool} (h : (a && b) = true) : a = true ∧ b = true := Bool.and_eq_true_iff.mp h
theorem rat_of {x : Rat} (h : x.den = 1) : x = ((x.num : Int) : Rat) := by
  refine Rat.ext ?_ ?_
  · rw [Rat.num_intCast]
  · rw [Rat.den_intCast]; exact h
theorem rootB_ok {a : List Rat} (h : rootB a = true) : Good a := by
  unfold rootB at h
  obtain ⟨h1, h⟩ := band h
  obtain ⟨h2, h⟩ := band h
  obtain ⟨h3, h⟩ := band h
  obtain ⟨h4, h⟩ := band h
  obtain ⟨h5, h⟩ := band h
  obtain ⟨h6, h⟩ := band h
  obtain ⟨h7, h⟩ := band h
  obtain ⟨h8, h⟩ := band h
  obtain ⟨h9, h⟩ := band h
  obtain ⟨h10, h⟩ := band h
  obtain ⟨h11, h12⟩ := band h
  have ln : a.length = 3 ∨ a.length = 5 ∨ a.length = 7 ∨ a.length = 9 := by
    simp only [Bool.or_eq_true, decide_eq_true_eq] at h2
    omega
  have fl : FL 1 4096 a := fun i => by
    rw [List.getD_eq_getElem?_getD]
    cases e : a[i]? with
    | none => exact Fb.zero
    | some x =>
      obtain ⟨d1, d2⟩ := band (List.all_eq_true.mp h3 x (List.mem_of_getElem? e))
      show Fb 1 4096 x
      rw [rat_of (of_decide_eq_true d1)]
      exact Fb.int (of_decide_eq_true d2)
  have sz : SzL a := fl.szl (by decide) (by decide) (by decide)
  have hr1 := of_decide_eq_true h10
  have hlead := of_decide_eq_true h11
  generalize isq (leadQ a).num.natAbs = r at hr1 hlead h12
  have hrr : r * r ≤ 4096 := by
    obtain ⟨n, en, hn⟩ := fl (a.length - 1)
    have e1 : ((((r : Nat) : Int) * (r : Int) : Int) : Rat) = ((n : Int) : Rat) := by
      rw [← hlead, ← rat_int n]
      exact en
    have e2 := Rat.intCast_inj.mp e1
    have e3 : ((r * r : Nat) : Int) = n := by rw [Int.natCast_mul]; exact e2
    omega
  have hr64 : r ≤ 64 := by
    refine Decidable.byContradiction fun hn => ?_
    have : 65 * 65 ≤ r * r := Nat.mul_le_mul (by omega) (by omega)
    omega
  refine ⟨?_, ⟨?_, fl, r, hr1, hlead, hrr⟩⟩
  · refine ⟨of_decide_eq_true h1, ln, sz, szB_ok h8, of_decide_eq_true h4, of_decide_eq_true h5, biB_ok h6, biB_ok h7, ?_, ?_⟩
    · cases e : commF 60 (plainRow (topsQ a)) (plainRow (topsQ (slopeP a))) with
      | none => rw [e] at h9; cases h9
      | some out =>
        rw [e] at h9
        obtain ⟨o1, o2⟩ := band h9
        obtain ⟨o2, o3⟩ := band o2
        exact ⟨out, rfl, of_decide_eq_true o1, of_decide_eq_true o2, of_decide_eq_true o3⟩
    · cases e : numF a (((r : Nat) : Int) : Rat) (a.length / 2) with
      | none => rw [e] at h12; cases h12
      | some f =>
        rw [e] at h12
        obtain ⟨o1, o⟩ := band h12
        obtain ⟨o2, o⟩ := band o
        obtain ⟨o3, o⟩ := band o
        obtain ⟨o4, o5⟩ := band o
        exact ⟨r, f, hr1, Nat.lt_of_le_of_lt hr64 (by decide), hlead, e, szB_ok o1, of_decide_eq_true o2, biB_ok o3, szB_ok o4, szB_ok o5⟩
  · rcases ln with e | e | e | e
    · exact ⟨1, by omega, by omega, by omega⟩
    · exact ⟨2, by omega, by omega, by omega⟩
    · exact ⟨3, by omega, by omega, by omega⟩
    · exact ⟨4, by omega, by omega, by omega⟩
theorem chk_ok {t : List (List Int)} {D : List Rat} (h : chkB t = true) (m : D ∈ t.map (·.map q)) : Good D ∧ Good (doubleD D) := by
  obtain ⟨l, hl, rfl⟩ := List.mem_map.mp m
  obtain ⟨a, b⟩ := band (List.all_eq_true.mp h l hl)
  exact ⟨rootB_ok a, rootB_ok b⟩
theorem mem3 {f : Int → Int → Int → List Rat} {A B C : List Int} {a b c : Int} (ha : a ∈ A) (hb : b ∈ B) (hc : c ∈ C) : f a b c ∈ A.flatMap fun a => B.flatMap fun b => C.map fun c => f a b c :=
  List.mem_flatMap.mpr ⟨a, ha, List.mem_flatMap.mpr ⟨b, hb, List.mem_map.mpr ⟨c, hc, rfl⟩⟩⟩
theorem made_ok {k c a b e : Int} (hc : c ∈ cs) (ha : a ∈ as) (hb : b ∈ bs) (he : e ∈ bs) : Good (madeD k c a b e) ∧ Good (doubleD (madeD k c a b e)) := by
  by_cases h0 : k = 0
  · subst h0
    have ee : madeD 0 c a b e = madeD 0 c a b 0 := by
      unfold madeD
      rw [if_pos rfl, if_pos rfl]
    rw [ee]
    refine chk_ok k0 ?_
    rw [← e0]
    exact mem3 (f := fun c a b => madeD 0 c a b 0) hc ha hb
  by_cases h3 : k = 3
  · subst h3
    have ee : ∀ e, madeD 3 c a b e = pow2D (trim [q 0, q b, q 0, q a]) (cub c a b) := fun e => by
      unfold madeD
      rw [if_neg (show ¬ (3 : Int) = 0 by decide), if_pos rfl]
    rw [ee e, ← ee 0]
    refine chk_ok k3 ?_
    rw [← e3]
    exact mem3 (f := fun c a b => madeD 3 c a b 0) hc ha hb
  by_cases h1 : k = 1
  · subst h1
    have m : ∀ c, madeD 1 c a b e ∈ as.flatMap fun a => bs.flatMap fun b => bs.map fun e => madeD 1 c a b e := fun c => mem3 (f := fun a b e => madeD 1 c a b e) ha hb he
    simp only [cs, List.mem_cons, List.not_mem_nil, or_false] at hc
    rcases hc with rfl | rfl | rfl | rfl | rfl | rfl | rfl
    · exact chk_ok k1_0 (by rw [← e1_0]; exact m _)
    · exact chk_ok k1_1 (by rw [← e1_1]; exact m _)
    · exact chk_ok k1_2 (by rw [← e1_2]; exact m _)
    · exact chk_ok k1_3 (by rw [← e1_3]; exact m _)
    · exact chk_ok k1_4 (by rw [← e1_4]; exact m _)
    · exact chk_ok k1_5 (by rw [← e1_5]; exact m _)
    · exact chk_ok k1_6 (by rw [← e1_6]; exact m _)
  · have e1 : madeD k c a b e = madeD 2 0 a b e := by
      unfold madeD
      rw [if_neg h0, if_neg h3, if_neg h1, if_neg (by decide), if_neg (by decide), if_neg (by decide)]
    rw [e1]
    refine chk_ok k2 ?_
    rw [← e2]
    exact mem3 (f := fun a b e => madeD 2 0 a b e) ha hb he
theorem never_ok {a b n : Int} (ha : a ∈ bs) (hb : b ∈ ([1, -1, 2] : List Int)) (hn : n ∈ ([1, 2, 3] : List Int)) : Good (neverD a b n) := by
  have m : neverD a b n ∈ tabn.map (·.map q) := by
    rw [← en]
    exact mem3 (f := fun a b e => neverD a b e) ha hb hn
  obtain ⟨l, hl, e⟩ := List.mem_map.mp m
  rw [← e]
  exact rootB_ok (List.all_eq_true.mp kn l hl)
end RR
set_option maxHeartbeats 4000000
-- RP3
namespace RR
open PySem PySem.Spec PyProof.Rows L2
/-- of which nothing need be known -/
def Any : V → Hp → Prop := fun _ _ => True
instance {pa : Option Addr} : Stb pa Any := ⟨fun _ _ _ _ _ => trivial⟩
theorem ev_any {X : Cx} {pa : Option Addr} {σ : L2.St} {H : Hp} {e : Expr} {P : V → Hp → Prop} (h : Ev pa X e σ H P) : Ev pa X e σ H Any := h.imp fun _ _ _ _ => trivial
/-! ### rows of small ints -/
abbrev qi (ns : List Int) : List Rat := ns.map q
theorem qi_get {ns : List Int} {i : Nat} (h : i < ns.length) : (qi ns).getD i 0 = q (ns.getD i 0) := map_getD h
theorem nvs_ints {K : PySem.W.Frag} {ns : List Int} {H : Hp} : NVs K (qi ns) (iv ns) H := by
  refine ⟨by rw [List.length_map, List.length_map], fun i y e => ?_⟩
  obtain ⟨ey, hi⟩ := getD_of e
  subst ey
  show Num K ((qi ns).getD i 0) _ H
  rw [qi_get hi]
  exact .inr ⟨_, rfl, rfl⟩
theorem fl_ints {ns : List Int} {B : Nat} (h : ∀ x ∈ ns, x.natAbs ≤ B) : FL 1 B (qi ns) := fun i => by
  by_cases hi : i < ns.length
  · rw [qi_get hi]
    refine Fb.int (h _ ?_)
    rw [List.getD_eq_getElem?_getD, List.getElem?_eq_getElem hi]
    exact List.getElem_mem hi
  · rw [getD_ge (by rw [List.length_map]; omega)]
    exact Fb.zero
theorem FL.sz1 {B : Nat} {a : List Rat} (h : FL 1 B a) (hB : B < 2 ^ 4000) : SzL a := h.szl (by decide) (by decide) hB
section
variable {X : Cx} {pa : Option Addr} {σ : L2.St} {H : Hp} {a b c : Expr} {pos p pc : Pos} {k : Nat} {ns : List Int} {qs rs : List Rat} {r : Rat}
/-- told([..]) of ints, the list made on the way -/
theorem ev_toldI (T : Txt X.K X.mg) (hr : Room k X.A) (hk : 6 ≤ k) (ha : Ev pa X a σ H (IL ns)) (hb : ∀ x ∈ ns, x.natAbs ≤ 1000) (hl : ns.length ≤ 10) (hg : Gl X "_law_told" := by rfl)
    (he : starEach [a] X.env = (false, eval a X.env) :: starEach [] X.env := by rfl) (hpl : (backTo pos (starEach [] X.env)).any (·.1) = false := by rfl) : Ev pa X (.Call (.Name "_law_told" p) [a] [] pos) σ H (NL H (RVs X.K (trim (qi ns)))) :=
  ev_c1 (c_told T) hr hk ha (fun v H1 k1 ⟨p, e, hp⟩ => ⟨_, ⟨qi ns, ⟨p, _, e, hp, nvs_ints⟩, (fl_ints hb).sz1 (by decide), by rw [List.length_map]; omega, rfl⟩, fun v H2 _ h => h.back k1⟩) hg (by decide) he hpl
theorem ev_lst1 {i : Int} (ha : Ev pa X a σ H (Is (.int i))) (he : starEach [a] X.env = (false, eval a X.env) :: starEach [] X.env := by rfl) : Ev pa X (.List [a] pos) σ H (IL [i]) :=
  (ev_list (ea ha ea0 he) (fun vs H' _ ⟨_, _, e, _, e2⟩ => by rw [e, show _ = [] from e2]; exact small (by show 1 ≤ 100000; decide))).imp fun v H' k ⟨p, xs, e, n, hp, y, r, e2, py, er⟩ => ⟨p, e, by rw [hp, e2, show y = _ from py, show r = [] from er]; rfl⟩
theorem ev_lst2 {i j : Int} (ha : Ev pa X a σ H (Is (.int i))) (hb : Ev pa X b σ H (Is (.int j))) (he : starEach [a, b] X.env = (false, eval a X.env) :: starEach [b] X.env := by rfl) (he2 : starEach [b] X.env = (false, eval b X.env) :: starEach [] X.env := by rfl) : Ev pa X (.List [a, b] pos) σ H (IL [i, j]) :=
  (ev_list (ea ha (ea hb ea0 he2) he) (fun vs H' _ ⟨_, _, e, _, _, _, e2, _, e3⟩ => by rw [e, e2, show _ = [] from e3]; exact small (by show 2 ≤ 100000; decide))).imp fun v H' k ⟨p, xs, e, n, hp, y, r, e2, py, z, r2, e3, pz, er⟩ => ⟨p, e, by rw [hp, e2, e3, show y = _ from py, show z = _ from pz, show r2 = [] from er]; rfl⟩
theorem ev_lst3 {i j l : Int} (ha : Ev pa X a σ H (Is (.int i))) (hb : Ev pa X b σ H (Is (.int j))) (hc : Ev pa X c σ H (Is (.int l))) (he : starEach [a, b, c] X.env = (false, eval a X.env) :: starEach [b, c] X.env := by rfl) (he2 : starEach [b, c] X.env = (false, eval b X.env) :: starEach [c] X.env := by rfl) (he3 : starEach [c] X.env = (false, eval c X.env) :: starEach [] X.env := by rfl) : Ev pa X (.List [a, b, c] pos) σ H (IL [i, j, l]) :=
  (ev_list (ea ha (ea hb (ea hc ea0 he3) he2) he) (fun vs H' _ ⟨_, _, e, _, _, _, e2, _, _, _, e3, _, e4⟩ => by rw [e, e2, e3, show _ = [] from e4]; exact small (by show 3 ≤ 100000; decide))).imp fun v H' k ⟨p, xs, e, n, hp, y, r, e2, py, z, r2, e3, pz, w, r3, e4, pw, er⟩ => ⟨p, e, by rw [hp, e2, e3, e4, show y = _ from py, show z = _ from pz, show w = _ from pw, show r3 = [] from er]; rfl⟩
/-- the law's product, sum, multiple of rows of small bounds -/
theorem ev_lprod {B B' : Nat} (T : Txt X.K X.mg) (hr : Room k X.A) (hk : 6 ≤ k) (h1 : FL 1 B qs) (h2 : FL 1 B' rs) (l1 : qs.length ≤ 64) (l2 : rs.length ≤ 64) (hB : B < 2 ^ 100) (hB' : B' < 2 ^ 100) (ha : Ev pa X a σ H (RL X.K qs)) (hb : Ev pa X b σ H (RL X.K rs)) (hg : Gl X "_law_product" := by rfl)
    (he : starEach [a, b] X.env = (false, eval a X.env) :: starEach [b] X.env := by rfl) (he2 : starEach [b] X.env = (false, eval b X.env) :: starEach [] X.env := by rfl) (hpl : (backTo pos (starEach [b] X.env)).any (·.1) = false := by rfl) : Ev pa X (.Call (.Name "_law_product" p) [a, b] [] pos) σ H (NL H (RVs X.K (prodR qs rs))) := by
  have b1 : B < 2 ^ 4000 := Nat.lt_trans hB (by decide)
  have b2 : B' < 2 ^ 4000 := Nat.lt_trans hB' (by decide)
  have b3 : 64 * (B * B') < 2 ^ 4000 := by
    have h : B * B' < 2 ^ 100 * 2 ^ 100 := Nat.mul_lt_mul'' hB hB'
    refine Nat.lt_trans (Nat.mul_lt_mul_of_pos_left h (by decide)) (by decide)
  exact ev_c2 (c_lproduct T) hr hk ha hb (fun v u H1 k1 hv hu => ⟨_, ⟨qs, rs, hv, hu, prodOk_of (by decide) (by decide) h1 h2 l1 l2 (by decide) b3 (by decide) (by decide) b1 b2, rfl⟩, fun v H2 _ h => h.back k1⟩) hg (by decide) he he2 hpl
theorem ev_lsum {B B' : Nat} (T : Txt X.K X.mg) (hr : Room k X.A) (hk : 7 ≤ k) (h1 : FL 1 B qs) (h2 : FL 1 B' rs) (l1 : qs.length ≤ 300) (l2 : rs.length ≤ 300) (hB : B < 2 ^ 100) (hB' : B' < 2 ^ 100) (ha : Ev pa X a σ H (RL X.K qs)) (hb : Ev pa X b σ H (RL X.K rs)) (hg : Gl X "_law_sum" := by rfl)
    (he : starEach [a, b] X.env = (false, eval a X.env) :: starEach [b] X.env := by rfl) (he2 : starEach [b] X.env = (false, eval b X.env) :: starEach [] X.env := by rfl) (hpl : (backTo pos (starEach [b] X.env)).any (·.1) = false := by rfl) : Ev pa X (.Call (.Name "_law_sum" p) [a, b] [] pos) σ H (NL H (RVs X.K (sumP qs rs))) := by
  have b1 : B < 2 ^ 4000 := Nat.lt_trans hB (by decide)
  have b2 : B' < 2 ^ 4000 := Nat.lt_trans hB' (by decide)
  have b3 : B + B' < 2 ^ 4000 := Nat.lt_trans (show B + B' < 2 * 2 ^ 100 by omega) (by decide)
  exact ev_c2 (c_lsum T) hr hk ha hb (fun v u H1 k1 hv hu => ⟨_, ⟨qs, rs, hv, hu, h1.sz1 b1, h2.sz1 b2, fun i => ((h1 i).add (h2 i) (by decide)).sz (by decide) (by decide) b3, l1, l2, rfl⟩, fun v H2 _ h => h.back k1⟩) hg (by decide) he he2 hpl
end
/-- what a made root's tuple holds -/
def MadeT (K : PySem.W.Frag) (D : List Rat) : V → Hp → Prop := fun v H => ∃ t y r, v = .ref t ∧ H t = some (.tup (y :: r)) ∧ RL K D y H
/-- the tuple of five -/
theorem ev_mtup {X : Cx} {pa : Option Addr} {σ : L2.St} {H : Hp} {a b c d e : Expr} {x1} {pos : Pos} {D : List Rat} (ha : Ev pa X a σ H (RL X.K D)) (hb : Ev pa X b σ H Any) (hc : Ev pa X c σ H Any) (hd : Ev pa X d σ H Any) (he : Ev pa X e σ H Any)
    (s1 : starEach [a, b, c, d, e] X.env = (false, eval a X.env) :: starEach [b, c, d, e] X.env := by rfl) (s2 : starEach [b, c, d, e] X.env = (false, eval b X.env) :: starEach [c, d, e] X.env := by rfl) (s3 : starEach [c, d, e] X.env = (false, eval c X.env) :: starEach [d, e] X.env := by rfl)
    (s4 : starEach [d, e] X.env = (false, eval d X.env) :: starEach [e] X.env := by rfl) (s5 : starEach [e] X.env = (false, eval e X.env) :: starEach [] X.env := by rfl) : Ev pa X (.Tuple [a, b, c, d, e] x1 pos) σ H (MadeT X.K D) :=
  (ev_tup (ea ha (ea hb (ea hc (ea hd (ea he ea0 s5) s4) s3) s2) s1) fun vs H' _ ⟨_, _, e1, _, _, _, e2, _, _, _, e3, _, _, _, e4, _, _, _, e5, _, e6⟩ => by rw [e1, e2, e3, e4, e5, show _ = [] from e6]; exact small (by show 5 ≤ 100000; decide)).imp
    fun v' H' k ⟨t, xs, e1, _, ht, y, r, e2, hy, _⟩ => ⟨t, y, r, e1, by rw [ht, e2], hy⟩
section
variable {P : Program} {w : World} {K : PySem.W.Frag} {mg : Str → Option Value} {base : Heap}
theorem as_ok {a : Int} (h : a ∈ as) : a = 1 ∨ a = 2 := by simpa [as] using h
theorem bs_ok {b : Int} (h : b ∈ bs) : -2 ≤ b ∧ b ≤ 2 := by
  have : b = -2 ∨ b = -1 ∨ b = 0 ∨ b = 1 ∨ b = 2 := by simpa [bs] using h
  omega
theorem trim_len2 (a : List Rat) {n : Nat} (h : a.length ≤ n) : (trim a).length ≤ n := Nat.le_trans (trim_le _) h
theorem c_line (T : Txt K mg) : Cal P w K mg base "_law_line_made" 8 [] (spN (P3 fun u v z H Po => ∃ a b e : Int, a ∈ as ∧ b ∈ bs ∧ e ∈ bs ∧ u = .int a ∧ v = .int b ∧ z = .int e ∧ Po = MadeT K (lineF a b e))) := by
  refine (def3 (N := ["_law_a", "_law_b", "_law_e", "_law_x", "_law_v", "_law_h", "_law_whole", "_law_root_poly"]) T.f_F_law_line_made "_law_a" "_law_b" "_law_e" fun cdv A outer s E H u v z Po Q hr nd ⟨a, b, e, ha, hb, he, e1, e2, e3, hPo⟩ hQ => ?_).named T.g__law_line_made
  subst hPo
  subst e1
  subst e2
  subst e3
  have ha := as_ok ha
  have hb := bs_ok hb
  have he := bs_ok he
  have hae : -4 ≤ a * e ∧ a * e ≤ 4 := by rcases ha with rfl | rfl <;> omega
  have wa : CMulW a e := cmulw (Nat.lt_of_le_of_lt (show a.natAbs ≤ 5 by omega) (by decide)) (Nat.lt_of_le_of_lt (show e.natAbs ≤ 5 by omega) (by decide))
  -- the tail, b settled twice
  have go2 : ∀ (b2 : Int) (x : V) (H1 : Hp), -2 ≤ b2 → b2 ≤ 12 → b2 = lineB2 a (lineB a b e) e → Kp none H H1 →
      Ss (bodyX P w K mg base ["_law_a", "_law_b", "_law_e", "_law_x", "_law_v", "_law_h", "_law_whole", "_law_root_poly"] d_F_law_line_made cdv A outer s H E) (d_F_law_line_made.body.drop 3) [some (.int a), some (.int b2), some (.int e), some x, none, none, none, none] H1 { nx := fun _ H' => Q .non H', rt := Q } := fun b2 x H1 l1 l2 eb k1 => by
    have m1 : ∀ y ∈ [b2, a], y.natAbs ≤ 12 := fun y hy => by
      have : y = b2 ∨ y = a := by simpa using hy
      omega
    have m2 : ∀ y ∈ [e, (1 : Int)], y.natAbs ≤ 12 := fun y hy => by
      have : y = e ∨ y = 1 := by simpa using hy
      omega
    have m3 : ∀ y ∈ [(-2 : Int)], y.natAbs ≤ 12 := fun y hy => by
      have : y = -2 := by simpa using hy
      omega
    have m4 : ∀ y ∈ [(-1 : Int)], y.natAbs ≤ 12 := fun y hy => by
      have : y = -1 := by simpa using hy
      omega
    have big : ∀ {ns : List Int}, (∀ y ∈ ns, y.natAbs ≤ 12) → ∀ y ∈ ns, y.natAbs ≤ 1000 := fun h y hy => Nat.le_trans (h y hy) (by decide)
    have fv := (fl_ints m1).trim
    have fh := (fl_ints m2).trim
    have f2 := (fl_ints m3).trim
    have f1 := (fl_ints m4).trim
    have lv : (trim (qi [b2, a])).length ≤ 2 := trim_le _
    have lh : (trim (qi [e, 1])).length ≤ 2 := trim_le _
    have l2' : (trim (qi [(-2 : Int)])).length ≤ 1 := trim_le _
    have l1' : (trim (qi [(-1 : Int)])).length ≤ 1 := trim_le _
    refine ss_par (pa := none) (Pa := NL H (RVs K (trim (qi [b2, a])))) (Pb := NL H (RVs K (trim (qi [e, 1])))) 4 5 (eva2 ((ev_toldI T hr (by decide) (ev_lst2 (ev_v 1) (ev_v 0)) (big m1) (by simp)).imp fun v H' k h => h.back k1) ((ev_toldI T hr (by decide) (ev_lst2 (ev_v 2) ev_int) (big m2) (by simp)).imp fun v H' k h => h.back k1)) fun v h H2 k2 hv hh => ?_
    have phh := fh.prod (s := 2) (by decide) (by decide) fh lh
    have ln1 := prodR_len (trim (qi [e, 1])) (trim (qi [e, 1]))
    have pw := fv.prod (s := 2) (by decide) (by decide) phh lv
    have ln2 := prodR_len (trim (qi [b2, a])) (prodR (trim (qi [e, 1])) (trim (qi [e, 1])))
    refine ss_set (pa := none) 6 (P := NL H2 (RVs K (prodR (trim (qi [b2, a])) (prodR (trim (qi [e, 1])) (trim (qi [e, 1])))))) (ev_lprod T hr (by decide) fv phh (by omega) (by omega) (by decide) (by decide) (ev_n 4 hv.rl) (ev_rl (ev_lprod T hr (by decide) fh fh (by omega) (by omega) (by decide) (by decide) (ev_n 5 hh.rl) (ev_n 5 hh.rl)))) fun wv H3 k3 hw => ?_
    have ps := pw.sum f2 (by decide)
    have ln3 : (sumP (prodR (trim (qi [b2, a])) (prodR (trim (qi [e, 1])) (trim (qi [e, 1])))) (trim (qi [(-2 : Int)]))).length ≤ 64 := sumP_len (by omega) (by omega)
    have hv3 : RL K _ v H3 := hv.rl.kp k3
    refine ss_set (pa := none) 7 (P := NL H3 (RVs K (lineF a b e))) ((ev_lprod T hr (by decide) fv ps (by omega) (by omega) (by decide) (by decide) (ev_n 4 hv3) (ev_rl (ev_lsum T hr (by decide) pw f2 (by omega) (by omega) (by decide) (by decide) (ev_n 6 hw.rl) (ev_rl (ev_toldI T hr (by decide) (ev_lst1 (ev_neg ev_int)) (big m3) (by simp)))))).imp fun v' H' k h => by
      unfold lineF
      rw [← eb]
      exact h) fun rp H4 k4 hrp => ?_
    have hw4 : RL K _ wv H4 := hw.rl.kp k4
    refine ss_ret (pa := none) (P := MadeT K (lineF a b e)) (ev_mtup (ev_n (P := RL K (lineF a b e)) 7 hrp.rl) (ev_any (ev_lsum T hr (by decide) pw f1 (by omega) (by omega) (by decide) (by decide) (ev_n 6 hw4) (ev_rl (ev_toldI T hr (by decide) (ev_lst1 (ev_neg ev_int)) (big m4) (by simp))))) (ev_any (ev_v 5)) (ev_any (ev_rat1 T hr ev_int)) (ev_any ev_int)) fun v' H' k h => hQ v' H' (((k1.trans k2).trans k3).trans (k4.trans k)) h
  have go1 : ∀ (b1 : Int) (H1 : Hp), -2 ≤ b1 → b1 ≤ 3 → b1 = lineB a b e → Kp none H H1 →
      Ss (bodyX P w K mg base ["_law_a", "_law_b", "_law_e", "_law_x", "_law_v", "_law_h", "_law_whole", "_law_root_poly"] d_F_law_line_made cdv A outer s H E) (d_F_law_line_made.body.drop 1) [some (.int a), some (.int b1), some (.int e), none, none, none, none, none] H1 { nx := fun _ H' => Q .non H', rt := Q } := fun b1 H1 l1 l2 eb k1 => by
    have fx : Fb 6 100 (lineX a b1 e) := by
      have hn : (0 - a * e - 2 * b1).natAbs ≤ 40 := by omega
      unfold lineX
      rcases ha with rfl | rfl
      · have h3 : Fb 3 40 (Rat.divInt (0 - 1 * e - 2 * b1) (3 * 1)) := ⟨_, rfl, hn⟩
        exact (Fb.scale h3 2 (by decide)).mono (by decide)
      · have h3 : Fb 6 40 (Rat.divInt (0 - 2 * e - 2 * b1) (3 * 2)) := ⟨_, rfl, hn⟩
        exact h3.mono (by decide)
    have fa : Fb 1 2 (q a) := Fb.int (by omega)
    have fxa : Fb 6 200 (lineX a b1 e * q a) := fx.mul fa
    have fb6 : Fb 6 18 (q b1) := (Fb.int (B := 3) (i := b1) (by omega)).scale 6 (by decide)
    have fe6 : Fb 6 12 (q e) := (Fb.int (B := 2) (i := e) (by omega)).scale 6 (by decide)
    have f1 := fxa.add fb6 (by decide)
    have f2 := fx.add fe6 (by decide)
    have f3 := f1.mul f2
    have f4 := f3.mul f2
    have z : ∀ {M B : Nat} {y : Rat}, Fb M B y → 0 < M → M ≤ 10000 → B ≤ 100000000 → Sz y := fun h h0 h1 h2 => h.sz h0 (Nat.lt_of_le_of_lt h1 (by decide)) (Nat.lt_of_le_of_lt h2 (by decide))
    have ha0 : (3 * a : Int) ≠ 0 := by omega
    refine ss_set (pa := none) 3 (P := IsR K (lineX a b1 e)) (ev_rat2 T hr ha0 (Nat.lt_of_le_of_lt (show (3 * a).natAbs ≤ 10 by omega) (by decide)) (ev_sub (ev_sub ev_int (ev_mul wa (ev_v 0) (ev_v 2))) (ev_mul (cmulw (by decide) (Nat.lt_of_le_of_lt (show b1.natAbs ≤ 5 by omega) (by decide))) ev_int (ev_v 1))) (ev_mul (cmulw (by decide) (Nat.lt_of_le_of_lt (show a.natAbs ≤ 5 by omega) (by decide))) ev_int (ev_v 0))) fun x H2 k2 hx => ?_
    have hxn : ∀ {H' : Hp}, Kp none H2 H' → IsR K (lineX a b1 e) x H' := fun k => hx.kp k
    refine ss_ifb (pa := none) (k := decide ((lineX a b1 e * q a + q b1) * (lineX a b1 e + q e) * (lineX a b1 e + q e) = q 2)) (et_req T hr (by decide)
      (ev_rmul T hr (by decide) (z f3 (by decide) (by decide) (by decide)) (z f2 (by decide) (by decide) (by decide)) (ev_rmul T hr (by decide) (z f1 (by decide) (by decide) (by decide)) (z f2 (by decide) (by decide) (by decide))
        (ev_radd T hr (by decide) (z fxa (by decide) (by decide) (by decide)) (z fb6 (by decide) (by decide) (by decide)) (ev_rmul T hr (by decide) (z fx (by decide) (by decide) (by decide)) (z fa (by decide) (by decide) (by decide)) (ev_n (P := IsR K (lineX a b1 e)) 3 hx) (ev_numI (ev_v 0))) (ev_numI (ev_v 1)))
        (ev_num (ev_radd T hr (by decide) (z fx (by decide) (by decide) (by decide)) (z fe6 (by decide) (by decide) (by decide)) (ev_n (P := IsR K (lineX a b1 e)) 3 hx) (ev_numI (ev_v 2)))))
        (ev_num (ev_radd T hr (by decide) (z fx (by decide) (by decide) (by decide)) (z fe6 (by decide) (by decide) (by decide)) (ev_n (P := IsR K (lineX a b1 e)) 3 hx) (ev_numI (ev_v 2)))))
      (ev_rat1 T hr ev_int) rfl) (fun h0 H3 k3 => ?_) (fun h0 H3 k3 => ss_nil ?_)
    · refine ss_set (pa := none) 1 (ev_add (ev_v 1) ev_int) fun y H4 k4 ey => ss_nil ?_
      subst ey
      refine go2 (b1 + 9) x H4 (by omega) (by omega) ?_ (((k1.trans k2).trans k3).trans k4)
      unfold lineB2
      rw [← eb, if_pos (of_decide_eq_true h0)]
    · refine go2 b1 x H3 (by omega) (by omega) ?_ ((k1.trans k2).trans k3)
      unfold lineB2
      rw [← eb, if_neg (of_decide_eq_false h0)]
  refine ss_ifb (pa := none) (k := decide (b = a * e)) (et_eqI (ev_v 1) (ev_mul wa (ev_v 0) (ev_v 2)) rfl) (fun h0 H1 k1 => ?_) (fun h0 H1 k1 => ss_nil ?_)
  · refine ss_set (pa := none) 1 (ev_add (ev_v 1) ev_int) fun y H2 k2 ey => ss_nil ?_
    subst ey
    refine go1 (b + 1) H2 (by omega) (by omega) ?_ (k1.trans k2)
    unfold lineB
    rw [if_pos (of_decide_eq_true h0)]
  · refine go1 b H1 (by omega) (by omega) ?_ k1
    unfold lineB
    rw [if_neg (of_decide_eq_false h0)]
end
end RR
-- RP4
namespace RR
open PySem PySem.Spec PyProof.Rows L2
/-- arguments that are known ints -/
def AIs (ns : List Int) : List V → Hp → Prop := fun vs _ => vs = iv ns
instance {pa : Option Addr} {ns : List Int} : StbA pa (AIs ns) := ⟨fun _ _ _ _ h => h⟩
section
variable {X : Cx} {pa : Option Addr} {σ : L2.St} {H : Hp} {a b c e : Expr} {es : List Expr} {pos p pc : Pos} {k : Nat} {ns : List Int} {i : Int} {Pa Pb Pc : V → Hp → Prop} {S : Int → Prop}
theorem eai0 : EvA pa X [] σ H (AIs []) := EvA.of pa_nil fun H1 Q k q => q _ H1 (Kp.refl _) rfl
theorem eai (ha : Ev pa X e σ H (Is (.int i))) (hr : EvA pa X es σ H (AIs ns)) (hs : starEach (e :: es) X.env = (false, eval e X.env) :: starEach es X.env := by rfl) : EvA pa X (e :: es) σ H (AIs (i :: ns)) :=
  EvA.of (pa_cons ha hr hs) fun H1 Q k q => ⟨rfl, k, fun v H2 k2 pv => ⟨rfl, k.trans k2, fun r H3 k3 pr => q _ H3 (k2.trans k3) (by rw [show v = _ from pv, show r = _ from pr]; rfl)⟩⟩
theorem ev_lstI (ha : EvA pa X es σ H (AIs ns)) (hl : ns.length ≤ 1000) : Ev pa X (.List es pos) σ H (NL H (AIs ns)) :=
  ev_list ha fun vs H' _ e => by rw [show vs = _ from e, List.length_map]; exact small (by omega)
theorem nl_il {H0 : Hp} {v : V} (h : NL H0 (AIs ns) v H) : IL ns v H := let ⟨p, xs, e, _, hp, r⟩ := h; ⟨p, e, by rw [hp, show xs = _ from r]⟩
theorem eva3 (ha : Ev pa X a σ H Pa) (hb : Ev pa X b σ H Pb) (hc : Ev pa X c σ H Pc) [S1 : Stb pa Pa] [S2 : Stb pa Pb] (hs : starEach [a, b, c] X.env = (false, eval a X.env) :: starEach [b, c] X.env := by rfl) (hs2 : starEach [b, c] X.env = (false, eval b X.env) :: starEach [c] X.env := by rfl) (hs3 : starEach [c] X.env = (false, eval c X.env) :: starEach [] X.env := by rfl) :
    EvA pa X [a, b, c] σ H (fun vs H' => ∃ x y z, vs = [x, y, z] ∧ Pa x H' ∧ Pb y H' ∧ Pc z H') :=
  EvA.of (pa_cons ha (pa_cons hb (pa_cons hc pa_nil hs3) hs2) hs) fun H1 Q k q => ⟨rfl, k, fun v H2 k2 pv => ⟨rfl, k.trans k2, fun u H3 k3 pu => ⟨rfl, (k.trans k2).trans k3, fun w H4 k4 pw => q _ H4 ((k2.trans k3).trans k4) ⟨v, u, w, rfl, S1.st _ _ _ (k3.trans k4) pv, S2.st _ _ _ k4 pu, pw⟩⟩⟩⟩
theorem ev_addIS (ha : Ev pa X a σ H (Is (.int i))) (hb : Ev pa X b σ H (IsS S)) : Ev pa X (.BinOp a .Add b pos) σ H (IsS (fun z => ∃ y, S y ∧ z = i + y)) :=
  ev_bin op_add ha hb fun x y H2 Q _ px ⟨j, py, hj⟩ q => ⟨i, j, px, py, q _ H2 (Kp.refl _) ⟨i + j, rfl, j, hj, rfl⟩⟩
theorem ev_subSI (ha : Ev pa X a σ H (IsS S)) (hb : Ev pa X b σ H (Is (.int i))) : Ev pa X (.BinOp a .Sub b pos) σ H (IsS (fun z => ∃ y, S y ∧ z = y - i)) :=
  ev_bin op_sub ha hb fun x y H2 Q _ ⟨j, px, hj⟩ py q => ⟨j, i, px, py, q _ H2 (Kp.refl _) ⟨j - i, rfl, j, hj, rfl⟩⟩
end
section
variable {X : Cx} {z : Addr} {σ : L2.St} {H : Hp} {a b : Expr} {pos p : Pos} {k : Nat} {ns : List Int}
theorem ev_draw {n : Int} {j} {pj : Pos} (T : Txt X.K X.mg) (hr : Room k X.A) (hp : PotOk (some z) H) (hk : 1 ≤ k) (ha : Ev (some z) X a σ H (Is (.ref z))) (hn : 1 ≤ n) (hn2 : n < 1000000) (hg : Gl X "_law_draw" := by rfl)
    (he : starEach [a, .Constant (.int n) j pj] X.env = (false, eval a X.env) :: starEach [.Constant (.int n) j pj] X.env := by rfl) (he2 : starEach [Expr.Constant (.int n) j pj] X.env = (false, eval (.Constant (.int n) j pj) X.env) :: starEach [] X.env := by rfl) (hpl : (backTo pos (starEach [Expr.Constant (.int n) j pj] X.env)).any (·.1) = false := by rfl) :
    Ev (some z) X (.Call (.Name "_law_draw" p) [a, .Constant (.int n) j pj] [] pos) σ H (IsS (fun i => 0 ≤ i ∧ i < n)) :=
  ev_d2 (c_draw T) hr hp hk ha ev_int (fun v H1 _ e => ⟨_, ⟨n, e, hn, hn2, rfl⟩, fun _ _ _ h => h⟩) hg (by decide) he he2 hpl
theorem ev_pickI (T : Txt X.K X.mg) (hr : Room k X.A) (hp : PotOk (some z) H) (hk : 2 ≤ k) (ha : Ev (some z) X a σ H (Is (.ref z))) (hb : Ev (some z) X b σ H (NL H (AIs ns))) (hl : 1 ≤ ns.length) (hl2 : ns.length ≤ 100) (hg : Gl X "_law_pick" := by rfl)
    (he : starEach [a, b] X.env = (false, eval a X.env) :: starEach [b] X.env := by rfl) (he2 : starEach [b] X.env = (false, eval b X.env) :: starEach [] X.env := by rfl) (hpl : (backTo pos (starEach [b] X.env)).any (·.1) = false := by rfl) :
    Ev (some z) X (.Call (.Name "_law_pick" p) [a, b] [] pos) σ H (IsS (fun i => i ∈ ns)) :=
  ev_d2 (c_pick T) hr hp hk ha hb (fun v H1 k1 ⟨q, xs, e, hq0, hq, ex⟩ => ⟨_, ⟨q, xs, e, hq, fun zz => hp.ne hq0 (by rw [zz]), by rw [show xs = _ from ex, List.length_map]; exact hl, by rw [show xs = _ from ex, List.length_map]; exact hl2, rfl⟩, fun v H2 _ h => by
    rw [show xs = _ from ex] at h
    obtain ⟨i, hi, e⟩ := List.mem_map.mp h
    exact ⟨i, e.symm, hi⟩⟩) hg (by decide) he he2 hpl
end
theorem cs_ok {c : Int} (h : c ∈ cs) : -4 ≤ c ∧ c ≤ 5 := by
  have : c = 1 ∨ c = -1 ∨ c = 2 ∨ c = 3 ∨ c = -4 ∨ c = 4 ∨ c = 5 := by simpa [cs] using h
  omega
theorem as_of {a : Int} (h : ∃ y, (0 ≤ y ∧ y < 2) ∧ a = 1 + y) : a ∈ as := by
  obtain ⟨y, hy, rfl⟩ := h
  have : y = 0 ∨ y = 1 := by omega
  rcases this with rfl | rfl <;> decide
theorem bs_of {b : Int} (h : ∃ y, (0 ≤ y ∧ y < 5) ∧ b = y - 2) : b ∈ bs := by
  obtain ⟨y, hy, rfl⟩ := h
  have : y = 0 ∨ y = 1 ∨ y = 2 ∨ y = 3 ∨ y = 4 := by omega
  rcases this with rfl | rfl | rfl | rfl | rfl <;> decide
theorem si {i : Int} {n : Nat} (h : i.natAbs ≤ n) (hn : n < 2 ^ 9000 := by decide) : i.natAbs < 2 ^ 9000 := Nat.lt_of_le_of_lt h hn
section
variable {P : Program} {w : World} {K : PySem.W.Frag} {mg : Str → Option Value} {base : Heap}
theorem c_made (T : Txt K mg) : Cal P w K mg base "_law_made" 9 [] (spD (Q1 fun a H Po => Po = fun v H' => ∃ D, Good D ∧ Good (doubleD D) ∧ MadeT K D v H')) := by
  refine (defD1 (N := ["_law_pot_here", "_law_kind", "_law_c", "_law_a", "_law_b", "_law_e", "_law_p"]) T.f_F_law_made "_law_pot_here" fun cdv A outer s E H z Po Q hr nd hp hPo hQ => ?_).named T.g__law_made
  subst hPo
  refine ss_par (pa := some z) (Pa := IsS (fun i => 0 ≤ i ∧ i < 5)) (Pb := IsS (fun i => i ∈ cs)) 1 2 (eva2 (ev_draw T hr hp (by decide) (ev_v 0) (by decide) (by decide)) (ev_pickI (ns := cs) T hr hp (by decide) (ev_v 0) (ev_lstI (eai ev_int (eai (ev_neg ev_int) (eai ev_int (eai ev_int (eai (ev_neg ev_int) (eai ev_int (eai ev_int eai0))))))) (by decide)) (by decide) (by decide))) fun x y H1 k1 ⟨kd, e1, hkd⟩ ⟨c, e2, hc⟩ => ?_
  subst e1
  subst e2
  have hp1 := hp.at k1
  refine ss_par3 (pa := some z) (Pa := IsS (fun z => ∃ y, (0 ≤ y ∧ y < 2) ∧ z = 1 + y)) (Pb := IsS (fun z => ∃ y, (0 ≤ y ∧ y < 5) ∧ z = y - 2)) (Pc := IsS (fun z => ∃ y, (0 ≤ y ∧ y < 5) ∧ z = y - 2)) 3 4 5 (eva3 (ev_addIS ev_int (ev_draw T hr hp1 (by decide) (ev_v 0) (by decide) (by decide))) (ev_subSI (ev_draw T hr hp1 (by decide) (ev_v 0) (by decide) (by decide)) ev_int) (ev_subSI (ev_draw T hr hp1 (by decide) (ev_v 0) (by decide) (by decide)) ev_int))
    fun x y w H2 k2 ⟨a, e1, ha⟩ ⟨b, e2, hb⟩ ⟨e, e3, he⟩ => ?_
  subst e1
  subst e2
  subst e3
  have ha := as_of ha
  have hb := bs_of hb
  have he := bs_of he
  have ga := as_ok ha
  have gb := bs_ok hb
  have ge := bs_ok he
  have gc := cs_ok hc
  obtain ⟨gd1, gd2⟩ := made_ok (k := kd) hc ha hb he
  have k12 := k1.trans k2
  -- the tail
  have go : ∀ (ns : List Int) (c' : Int) (x : V) (H3 : Hp), (∀ y ∈ ns, y.natAbs ≤ 12) → ns.length ≤ 4 → c'.natAbs ≤ 12 → madeD kd c a b e = pow2D (trim (qi ns)) c' → Kp (some z) H H3 → RL K (trim (qi ns)) x H3 →
      Ss (bodyX P w K mg base ["_law_pot_here", "_law_kind", "_law_c", "_law_a", "_law_b", "_law_e", "_law_p"] d_F_law_made cdv A outer s H E) (d_F_law_made.body.drop 3) [some (.ref z), some (.int kd), some (.int c'), some (.int a), some (.int b), some (.int e), some x] H3 { nx := fun _ H' => Q .non H', rt := Q } := fun ns c' x H3 hns ln hc' eD k3 hx => by
    have fp := (fl_ints hns).trim
    have lp : (trim (qi ns)).length ≤ 4 := trim_len2 _ (by rw [List.length_map]; exact ln)
    have m1 : ∀ y ∈ [0 - c'], y.natAbs ≤ 12 := fun y hy => by
      have : y = 0 - c' := by simpa using hy
      omega
    have f1 := (fl_ints m1).trim
    have pp := fp.prod (s := 4) (by decide) (by decide) fp lp
    have ln1 := prodR_len (trim (qi ns)) (trim (qi ns))
    have l1' : (trim (qi [0 - c'])).length ≤ 1 := trim_le _
    refine ss_ret (pa := some z) (P := MadeT K (madeD kd c a b e)) (ev_mtup (by
      rw [eD]
      exact ev_rl (ev_lsum (qs := prodR (trim (qi ns)) (trim (qi ns))) (rs := trim (qi [0 - c'])) T hr (by decide) pp f1 (by omega) (by omega) (by decide) (by decide) (ev_rl (ev_lprod T hr (by decide) fp fp (by omega) (by omega) (by decide) (by decide) (ev_n 6 hx) (ev_n 6 hx))) (ev_rl (ev_toldI T hr (by decide) (ev_lst1 (ev_sub ev_int (ev_v 2))) (fun y hy => Nat.le_trans (m1 y hy) (by decide)) (by simp)))))
      (ev_any (ev_n 6 hx)) (ev_any (ev_list (ea (ev_rat1 T hr ev_int) ea0) fun vs H' _ ⟨_, _, e, _, e2⟩ => by rw [e, show _ = [] from e2]; exact small (by show 1 ≤ 100000; decide))) (ev_any (ev_rat1 T hr (ev_v 2))) (ev_any (ev_sub (ev_lenR T.n_len (ev_n 6 hx)) ev_int))) fun v' H' k h => hQ v' H' (k3.trans k) ⟨_, gd1, gd2, h⟩
  refine ss_ifb (pa := some z) (k := decide (kd = 0)) (et_eqI (ev_v 1) ev_int rfl) (fun h0 H3 k3 => ?_) (fun h0 H3 k3 => ?_)
  · have h0 := of_decide_eq_true h0
    have m : ∀ y ∈ [b, a], y.natAbs ≤ 12 := fun y hy => by
      have : y = b ∨ y = a := by simpa using hy
      omega
    refine ss_set (pa := some z) 6 (ev_toldI T hr (by decide) (ev_lst2 (ev_v 4) (ev_v 3)) (fun y hy => Nat.le_trans (m y hy) (by decide)) (by simp)) fun x H4 k4 hx => ss_nil ?_
    refine go [b, a] c x H4 m (by simp) (by omega) ?_ ((k12.trans k3).trans k4) hx.rl
    unfold madeD
    rw [if_pos h0]
    rfl
  have h0 := of_decide_eq_false h0
  have wAC : (27 * a).natAbs ≤ 100 := by omega
  refine ss_ifb (pa := some z) (k := decide (kd = 3)) (et_eqI (ev_v 1) ev_int rfl) (fun h3 H4 k4 => ?_) (fun h3 H4 k4 => ?_)
  · have h3 := of_decide_eq_true h3
    have b2 : (4 * b).natAbs ≤ 100 := by omega
    have b3 : (4 * b * b).natAbs ≤ 1000 := by
      rw [Int.natAbs_mul]
      exact Nat.le_trans (Nat.mul_le_mul b2 (show b.natAbs ≤ 5 by omega)) (by decide)
    have m : ∀ y ∈ [0, b, 0, a], y.natAbs ≤ 12 := fun y hy => by
      have : y = 0 ∨ y = b ∨ y = 0 ∨ y = a := by simpa using hy
      omega
    refine ss_set (pa := some z) 2 (P := Is (.int (cub c a b))) (ev_if (k := !decide (27 * a * c = 0 - 4 * b * b * b)) (et_neI (ev_mul (cmulw (si wAC) (si (show c.natAbs ≤ 5 by omega))) (ev_mul (cmulw (by decide) (si (show a.natAbs ≤ 5 by omega))) ev_int (ev_v 3)) (ev_v 2)) (ev_sub ev_int (ev_mul (cmulw (si b3) (si (show b.natAbs ≤ 5 by omega))) (ev_mul (cmulw (si b2) (si (show b.natAbs ≤ 5 by omega))) (ev_mul (cmulw (by decide) (si (show b.natAbs ≤ 5 by omega))) ev_int (ev_v 4)) (ev_v 4)) (ev_v 4))) rfl)
      (fun h => (ev_v 2).imp fun v H' _ ev => ?_) (fun h => (ev_add (ev_v 2) ev_int).imp fun v H' _ ev => ?_)) fun x H5 k5 ex => ?_
    · unfold cub
      rw [if_pos (by simpa using h)]
      exact ev
    · unfold cub
      rw [if_neg (by simpa using h)]
      exact ev
    subst ex
    refine ss_set (pa := some z) 6 (ev_toldI (ns := [0, b, 0, a]) T hr (by decide) ((ev_lstI (eai ev_int (eai (ev_v 4) (eai ev_int (eai (ev_v 3) eai0)))) (by simp)).imp fun v H' _ h => nl_il h) (fun y hy => Nat.le_trans (m y hy) (by decide)) (by simp)) fun x H6 k6 hx => ss_nil (ss_nil ?_)
    refine go [0, b, 0, a] (cub c a b) x H6 m (by simp) ?_ ?_ ((((k12.trans k3).trans k4).trans k5).trans k6) hx.rl
    · unfold cub
      split <;> omega
    · unfold madeD
      rw [if_neg h0, if_pos h3]
      rfl
  have h3 := of_decide_eq_false h3
  refine ss_ifb (pa := some z) (k := decide (kd = 1)) (et_eqI (ev_v 1) ev_int rfl) (fun h1 H5 k5 => ?_) (fun h1 H5 k5 => ?_)
  · have h1 := of_decide_eq_true h1
    have m : ∀ y ∈ [e, b, a], y.natAbs ≤ 12 := fun y hy => by
      have : y = e ∨ y = b ∨ y = a := by simpa using hy
      omega
    have bb : (b * b).natAbs ≤ 25 := by
      rw [Int.natAbs_mul]
      exact Nat.le_trans (Nat.mul_le_mul (show b.natAbs ≤ 5 by omega) (show b.natAbs ≤ 5 by omega)) (by decide)
    have a4 : (4 * a).natAbs ≤ 20 := by omega
    have ae : (4 * a * e).natAbs ≤ 100 := by
      rw [Int.natAbs_mul]
      exact Nat.le_trans (Nat.mul_le_mul a4 (show e.natAbs ≤ 5 by omega)) (by decide)
    have ds : (b * b - 4 * a * e).natAbs ≤ 200 := by omega
    have a16 : (16 * a).natAbs ≤ 80 := by omega
    have aa : (16 * a * a).natAbs ≤ 400 := by
      rw [Int.natAbs_mul]
      exact Nat.le_trans (Nat.mul_le_mul a16 (show a.natAbs ≤ 5 by omega)) (by decide)
    have sd : ∀ {H' : Hp} {p1 p2 p3 p4 p5 p6 p7 p8 p9 : Pos} {j}, Ev (some z) (bodyX P w K mg base ["_law_pot_here", "_law_kind", "_law_c", "_law_a", "_law_b", "_law_e", "_law_p"] d_F_law_made cdv A outer s H E) (.BinOp (.BinOp (.Name "_law_b" p1) .Mult (.Name "_law_b" p2) p3) .Sub (.BinOp (.BinOp (.Constant (.int 4) j p4) .Mult (.Name "_law_a" p5) p6) .Mult (.Name "_law_e" p7) p8) p9) [some (.ref z), some (.int kd), some (.int c), some (.int a), some (.int b), some (.int e), none] H' (Is (.int (b * b - 4 * a * e))) :=
      ev_sub (ev_mul (cmulw (si (show b.natAbs ≤ 5 by omega)) (si (show b.natAbs ≤ 5 by omega))) (ev_v 4) (ev_v 4)) (ev_mul (cmulw (si a4) (si (show e.natAbs ≤ 5 by omega))) (ev_mul (cmulw (by decide) (si (show a.natAbs ≤ 5 by omega))) ev_int (ev_v 3)) (ev_v 5))
    refine ss_set (pa := some z) 2 (P := Is (.int (qua c a b e))) (ev_if (k := !decide ((b * b - 4 * a * e) * (b * b - 4 * a * e) = 16 * a * a * c)) (et_neI (ev_mul (cmulw (si ds) (si ds)) sd sd) (ev_mul (cmulw (si aa) (si (show c.natAbs ≤ 5 by omega))) (ev_mul (cmulw (si a16) (si (show a.natAbs ≤ 5 by omega))) (ev_mul (cmulw (by decide) (si (show a.natAbs ≤ 5 by omega))) ev_int (ev_v 3)) (ev_v 3)) (ev_v 2)) rfl)
      (fun h => (ev_v 2).imp fun v H' _ ev => ?_) (fun h => (ev_add (ev_v 2) ev_int).imp fun v H' _ ev => ?_)) fun x H6 k6 ex => ?_
    · unfold qua
      rw [if_pos (by simpa using h)]
      exact ev
    · unfold qua
      rw [if_neg (by simpa using h)]
      exact ev
    subst ex
    refine ss_set (pa := some z) 6 (ev_toldI T hr (by decide) (ev_lst3 (ev_v 5) (ev_v 4) (ev_v 3)) (fun y hy => Nat.le_trans (m y hy) (by decide)) (by simp)) fun x H7 k7 hx => ss_nil (ss_nil (ss_nil ?_))
    refine go [e, b, a] (qua c a b e) x H7 m (by simp) ?_ ?_ (((((k12.trans k3).trans k4).trans k5).trans k6).trans k7) hx.rl
    · unfold qua
      split <;> omega
    · unfold madeD
      rw [if_neg h0, if_neg h3, if_pos h1]
      rfl
  · have h1 := of_decide_eq_false h1
    refine ss_ret (pa := some z) (P := MadeT K (lineF a b e)) (ev_c3 (c_line T) hr (by decide) (ev_v 3) (ev_v 4) (ev_v 5) fun x y w H6 k6 ex ey ew => ⟨_, ⟨a, b, e, ha, hb, he, ex, ey, ew, rfl⟩, fun v H7 _ h => h⟩) fun v' H' k h => hQ v' H' ((((k12.trans k3).trans k4).trans k5).trans k) ⟨_, gd1, gd2, ?_⟩
    unfold madeD
    rw [if_neg h0, if_neg h3, if_neg h1]
    exact h
end
end RR
-- RP5
namespace RR
open PySem PySem.Spec PyProof.Rows L2
section
variable {X : Cx} {pa : Option Addr} {σ : L2.St} {H H' : Hp} {e a b c : Expr} {es : List Expr} {pos p : Pos} {P P' Pa Pb : V → Hp → Prop} {sts rest : List Stmt} {D : Ends}
/-- o.extend(e) -/
theorem ss_extend {o : Expr} {apos cpos : Pos} (ho : Ev pa X o σ H Pa) (he : Ev pa X e σ H Pb) [S : Stb pa Pa]
    (k : ∀ v u H', Kp pa H H' → Pa v H' → Pb u H' → ∃ l b xs zs, v = .ref l ∧ u = .ref b ∧ H' l = some (.lst xs) ∧ H' b = some (.lst zs) ∧ xs.length + zs.length ≤ sizeLine ∧ Ss X rest σ (upd H' l (.lst (xs ++ zs))) D)
    (hy : ∀ v H', Kp pa H H' → Pa v H' → ∃ l xs, v = .ref l ∧ H' l = some (.lst xs))
    (hbase : attributeBase o "extend" X.env (eval o X.env) = eval o X.env := by rfl)
    (hfew : ((backTo cpos (starEach [e] X.env)).all (fun x => !x.1) && (backToKw cpos (keywordEach [] X.env)).all (fun x => x.1.isSome)
      && decide (([e] : List Expr).length + ([] : List Keyword).length + (if ([] : List Keyword).isEmpty then 0 else 1) < 30)) = true := by rfl)
    (hline : (apos.endLine == cpos.line) = true := by rfl) (hs : starEach [e] X.env = (false, eval e X.env) :: starEach [] X.env := by rfl) (hplain : (backTo cpos (starEach [] X.env)).any (·.1) = false := by rfl)
    (hsw : swapsWith (.Call (.Attribute o "extend" apos) [e] [] cpos) none pos.line X.env = pure false := by rfl) :
    Ss X (.Expr (.Call (.Attribute o "extend" apos) [e] [] cpos) pos :: rest) σ H D :=
  ss_cons (ps_expr (pe_bm PySem.F.plainAttrs_list PySem.F.slot_list_extend PySem.F.type_list_extend mt_extend ho (ea1 he hs) hbase hfew hline hs hplain) hsw) ⟨rfl, Kp.refl _, fun v H2 k2 p => by
    obtain ⟨l, xs, ev, hl⟩ := hy v H2 k2 p
    subst ev
    refine ⟨.inl ⟨rfl, xs, SqL.of hl⟩, rfl, k2, fun vs H3 k3 ⟨u, r, e1, pu, er⟩ => ?_⟩
    obtain rfl : r = [] := er
    subst e1
    obtain ⟨l', b, xs', zs, e2, e3, hl', hb, hz, q⟩ := k _ u H3 (k2.trans k3) (S.st _ _ _ k3 p) pu
    exact ⟨l', b, xs', zs, e2, by rw [e3], hl', hb, hz, q⟩⟩
end
theorem inter_app : ∀ (a b : List Rat), inter (a ++ b) = inter a ++ inter b
  | [], b => rfl
  | x :: a, b => by
    show x :: 0 :: inter (a ++ b) = _
    rw [inter_app a b]
    rfl
theorem inter_take {D : List Rat} {n : Nat} (h : n < D.length) : inter (D.take (n + 1)) = inter (D.take n) ++ [D.getD n 0, 0] := by
  rw [List.take_succ_eq_append_getElem h, inter_app, List.getD_eq_getElem?_getD, List.getElem?_eq_getElem h]
  rfl
theorem inter_len : ∀ (a : List Rat), (inter a).length = 2 * a.length
  | [] => rfl
  | x :: a => by
    show (inter a).length + 2 = 2 * (a.length + 1)
    rw [inter_len a]
    omega
theorem rvs_two {K : PySem.W.Frag} {q r : Rat} {v u : V} {H : Hp} (h1 : IsR K q v H) (h2 : IsR K r u H) : RVs K [q, r] [v, u] H := rvs_cat (rvs_one h1) (rvs_one h2)
theorem good_len {D : List Rat} (g : Good D) : 3 ≤ D.length ∧ D.length ≤ 9 := g.d.len
section
variable {P : Program} {w : World} {K : PySem.W.Frag} {mg : Str → Option Value} {base : Heap}
/-- a root's polynomial -/
def RootP (K : PySem.W.Frag) : PoT := fun v H => ∃ D, Good D ∧ RL K D v H
instance {K : PySem.W.Frag} {pa : Option Addr} : Stb pa (RootP K) := ⟨fun _ _ _ k ⟨D, g, h⟩ => ⟨D, g, h.kp k⟩⟩
theorem c_never (T : Txt K mg) : Cal P w K mg base "_law_never" 8 [] (spD (Q1 fun a H Po => Po = RootP K)) := by
  refine (defD1 (N := ["_law_pot_here", "_law_line", "_law_number", "_law_square", "_law_root_poly"]) T.f_F_law_never "_law_pot_here" fun cdv A outer s E H z Po Q hr nd hp hPo hQ => ?_).named T.g__law_never
  subst hPo
  refine ss_par (pa := some z) (Pa := fun v H' => ∃ l0 l1, l0 ∈ bs ∧ l1 ∈ ([1, -1, 2] : List Int) ∧ RL K (trim (qi [l0, l1])) v H') (Pb := IsS (fun i => i ∈ ([1, 2, 3] : List Int))) 1 2 (eva2 (S := ⟨fun _ _ _ k ⟨l0, l1, h0, h1, h⟩ => ⟨l0, l1, h0, h1, h.kp k⟩⟩)
    (ev_c1 (c_told T) hr (by decide) (ev_list (ea (ev_subSI (ev_draw T hr hp (by decide) (ev_v 0) (by decide) (by decide)) ev_int) (ea (ev_pickI (ns := [1, -1, 2]) T hr hp (by decide) (ev_v 0) (ev_lstI (eai ev_int (eai (ev_neg ev_int) (eai ev_int eai0))) (by decide)) (by decide) (by decide)) ea0)) fun vs H' _ ⟨_, _, e, _, _, _, e2, _, e3⟩ => by rw [e, e2, show _ = [] from e3]; exact small (by show 2 ≤ 100000; decide))
      fun v H1 k1 ⟨p, xs, e, _, hpp, y, r, e1, ⟨l0, ey, h0⟩, y2, r2, e2, ⟨l1, ey2, h1⟩, er⟩ => ⟨_, ⟨qi [l0, l1], ⟨p, _, e, hpp, by
        rw [e1, e2, ey, ey2, show r2 = [] from er]
        exact nvs_ints (ns := [l0, l1])⟩, (fl_ints (B := 12) fun y hy => by
          have h0 := bs_ok (bs_of h0)
          have h1 : l1 = 1 ∨ l1 = -1 ∨ l1 = 2 := by simpa using h1
          have : y = l0 ∨ y = l1 := by simpa using hy
          omega).sz1 (by decide), by simp, rfl⟩, fun v H2 _ h => ⟨l0, l1, bs_of h0, h1, h.rl⟩⟩)
    (ev_pickI (ns := [1, 2, 3]) T hr hp (by decide) (ev_v 0) (ev_lstI (eai ev_int (eai ev_int (eai ev_int eai0))) (by decide)) (by decide) (by decide))) fun x y H1 k1 ⟨l0, l1, h0, h1, hx⟩ ⟨n, e2, hn⟩ => ?_
  subst e2
  have g := never_ok h0 h1 hn
  have b0 := bs_ok h0
  have b1 : l1 = 1 ∨ l1 = -1 ∨ l1 = 2 := by simpa using h1
  have bn : n = 1 ∨ n = 2 ∨ n = 3 := by simpa using hn
  have m : ∀ y ∈ [l0, l1], y.natAbs ≤ 12 := fun y hy => by
    have : y = l0 ∨ y = l1 := by simpa using hy
    omega
  have m1 : ∀ y ∈ [(1 : Int)], y.natAbs ≤ 12 := fun y hy => by
    have : y = 1 := by simpa using hy
    omega
  have fp := (fl_ints m).trim
  have f1 := (fl_ints m1).trim
  have lp : (trim (qi [l0, l1])).length ≤ 2 := trim_le _
  have l1' : (trim (qi [(1 : Int)])).length ≤ 1 := trim_le _
  have fs := fp.prod (s := 2) (by decide) (by decide) fp lp
  have ln1 := prodR_len (trim (qi [l0, l1])) (trim (qi [l0, l1]))
  have fss := fs.prod (s := 4) (by decide) (by decide) fs (by omega)
  have ln2 := prodR_len (prodR (trim (qi [l0, l1])) (trim (qi [l0, l1]))) (prodR (trim (qi [l0, l1])) (trim (qi [l0, l1])))
  have fa := fss.sum fp (by decide)
  have la : (sumP (prodR (prodR (trim (qi [l0, l1])) (trim (qi [l0, l1]))) (prodR (trim (qi [l0, l1])) (trim (qi [l0, l1])))) (trim (qi [l0, l1]))).length ≤ 16 := sumP_len (by omega) (by omega)
  have fb := fa.sum f1 (by decide)
  have lb : (sumP (sumP (prodR (prodR (trim (qi [l0, l1])) (trim (qi [l0, l1]))) (prodR (trim (qi [l0, l1])) (trim (qi [l0, l1])))) (trim (qi [l0, l1]))) (trim (qi [(1 : Int)]))).length ≤ 16 := sumP_len la (by omega)
  have nn : (n * n).natAbs ≤ 9 := by rcases bn with rfl | rfl | rfl <;> decide
  have fn : Fb 1 9 (q (n * n)) := Fb.int nn
  refine ss_set (pa := some z) 3 (ev_lprod T hr (by decide) fp fp (by omega) (by omega) (by decide) (by decide) (ev_n 1 hx) (ev_n 1 hx)) fun sq H2 k2 hsq => ?_
  refine ss_set (pa := some z) 4 (ev_lsum T hr (by decide) fa f1 (by omega) (by omega) (by decide) (by decide) (ev_rl (ev_lsum T hr (by decide) fss fp (by omega) (by omega) (by decide) (by decide) (ev_rl (ev_lprod T hr (by decide) fs fs (by omega) (by omega) (by decide) (by decide) (ev_n 3 hsq.rl) (ev_n 3 hsq.rl))) (ev_n 1 (hx.kp k2)))) (ev_rl (ev_toldI T hr (by decide) (ev_lst1 ev_int) (fun y hy => Nat.le_trans (m1 y hy) (by decide)) (by simp)))) fun rp H3 k3 hrp => ?_
  refine ss_ret (pa := some z) (P := RL K (neverD l0 l1 n)) (ev_c2 (c_lby T) hr (by decide) (ev_n 4 hrp.rl) (ev_mul (cmulw (si (show n.natAbs ≤ 5 by omega)) (si (show n.natAbs ≤ 5 by omega))) (ev_v 2) (ev_v 2)) fun x y H4 k4 hx hy => ⟨_, ⟨_, q (n * n), hx, .inr ⟨_, hy, rfl⟩, fb.sz1 (by decide), Sz.int (Nat.lt_of_le_of_lt nn (by decide)), fun i => ((fb i).mul fn).sz (by decide) (by decide) (by decide), by omega, rfl⟩, fun v H5 _ h => h.rl⟩) fun v' H' k h => hQ v' H' (((k1.trans k2).trans k3).trans k) ⟨_, g, h⟩
theorem c_doubled (T : Txt K mg) : Cal P w K mg base "_law_doubled" 5 [] (spN (P1 fun v H Po => ∃ D, RL K D v H ∧ 1 ≤ D.length ∧ D.length ≤ 20 ∧ Po = RL K (doubleD D))) := by
  refine (def1 (N := ["_law_root_poly", "_law_found", "_law_entry"]) T.f_F_law_doubled "_law_root_poly" fun cdv A outer s E H v Po Q hr nd ⟨D, hv, d1, d2, hPo⟩ hQ => ?_).named T.g__law_doubled
  subst hPo
  obtain ⟨pv, vs, rfl, hv0, rv⟩ := id hv
  refine ss_set (pa := none) 1 (P := NL H (RVs K [])) (ev_nil.imp fun v' H' k ⟨p, xs, e, n, hp, ex⟩ => ⟨p, xs, e, n, hp, by rw [ex]; exact ⟨rfl, fun i y e => by simp at e⟩⟩) fun x H1 k1 hx => ?_
  obtain ⟨pf, fs, rfl, hf0, hf1, rvf⟩ := hx
  refine ss_forL (pa := none) 2 vs (fun q n σ H' => q = pv ∧ Kp none H H' ∧ (∃ fs, H' pf = some (.lst fs) ∧ RVs K (inter (D.take n)) fs H') ∧ ∃ o, σ = [some (V.ref pv), some (V.ref pf), o]) (ev_v 0) (fun v H' k e => ⟨pv, e, rfl, k1.trans k, ⟨fs, k.get0 hf1, StbA.st _ _ _ k rvf⟩, _, rfl⟩) (fun q i σ' H' _ ⟨e, k, _⟩ => by subst e; exact SqL.of (k.get0 hv0))
    (fun q n y σ' H2 hy ⟨e, k2, ⟨fs, hf2, rv2⟩, o, hσ⟩ => ?_) (fun q σ' H2 ⟨e, k2, ⟨fs, hf2, rv2⟩, o, hσ⟩ => ?_)
  · subst hσ
    have hn : n < D.length := by rw [← rv.1]; exact (List.getElem?_eq_some_iff.mp hy).1
    have hy2 : IsR K (D.getD n 0) y H2 := Stb.st (pa := none) _ _ _ k2 (rv.2 n y hy)
    refine ss_extend (pa := none) (Pa := Is (.ref pf)) (Pb := NL H2 (RVs K [D.getD n 0, 0])) (ev_v 1) ((ev_list (ea (ev_n (P := IsR K (D.getD n 0)) 2 hy2) (ea (ev_rat1 T hr ev_int) ea0)) fun vs H' _ ⟨_, _, e, _, _, _, e2, _, e3⟩ => by rw [e, e2, show _ = [] from e3]; exact small (by show 2 ≤ 100000; decide)).imp fun v' H' k ⟨p, xs, e, n, hp, a, r, e1, ha, b, r2, e2, hb, er⟩ => ⟨p, xs, e, n, hp, by
        rw [e1, e2, show r2 = [] from er]
        exact rvs_two ha (by rw [← Rat.intCast_zero]; exact hb)⟩) (fun x u H3 k3 ex hu => ?_) (fun x H3 k3 ex => ⟨pf, fs, ex, k3.get0 hf2⟩)
    obtain ⟨pb, zs, eu, hb0, hb1, rvb⟩ := hu
    have hf3 := k3.get0 hf2
    have rv3 := StbA.st (pa := none) _ _ _ k3 rv2
    have lfs : fs.length = 2 * n := by
      rw [show fs.length = (inter (D.take n)).length from rv2.1, inter_len, List.length_take]
      omega
    refine ⟨pf, pb, fs, zs, ex, eu, hf3, hb1, small (by rw [show zs.length = 2 from rvb.1]; omega), ss_nil ⟨e, (k2.trans k3).mut hf0, ⟨fs ++ zs, upd_same, ?_⟩, _, rfl⟩⟩
    rw [inter_take hn]
    exact rvs_fr hf3 (rvs_cat rv3 rvb)
  · subst hσ
    rw [show vs.length = D.length from rv.1, List.take_length] at rv2
    have hf : RL K (inter D) (.ref pf) H2 := ⟨pf, fs, rfl, hf2, rv2⟩
    have hv2 : RL K D (.ref pv) H2 := hv.kp k2
    refine ss_ret (pa := none) (P := RL K (doubleD D)) (ev_if (k := !decide (sgn (D.getD 0 0) = 0) && decide (D.length < 6)) (ew_and2 (et_neI (ev_sign T hr (by decide) (ev_ixR (ev_n 0 hv2) ev_int 0 (ixN_nat (i := 0) (by omega)))) ev_int rfl) fun _ => ew_and1 (et_lt (ev_lenR T.n_len (ev_n 0 hv2)) ev_int (decide_eq_decide.mpr (by omega)))).et (fun h => ?_) (fun h => ?_)) fun v' H' k h => hQ v' H' (k2.trans k) h
    · have h2 : D.getD 0 0 ≠ 0 ∧ D.length < 6 := by
        simp only [Bool.and_eq_true, Bool.not_eq_true', decide_eq_false_iff_not, decide_eq_true_eq, sgn_ne] at h
        exact h
      refine ev_sl (P := RL K (doubleD D)) (Pa := RL K (inter D)) (ev_n (P := RL K (inter D)) 1 hf) eo_none (eo_some (ev_neg ev_int)) fun v' H' k ⟨p, ys, e, hp, r⟩ => ⟨p, ys, e, SqL.of hp, fun q hq => ⟨q, _, rfl, upd_same, ?_⟩⟩
      have hl : ys.length = 2 * D.length := by rw [show ys.length = (inter D).length from r.1, inter_len]
      have ec : cutV ys none (some (-1)) = ys.take (ys.length - 1) := by
        unfold cutV
        rw [HT.sIx_none, List.drop_zero]
        congr 1
        show (if (-1 : Int) < 0 then ((-1 : Int) + (ys.length : Int)).toNat else min (-1 : Int).toNat ys.length) - 0 = _
        rw [if_pos (by decide)]
        omega
      unfold doubleD
      rw [if_pos h2, ec, List.dropLast_eq_take, show (inter D).length = ys.length from r.1.symm]
      exact rvs_take (StbA.st (pa := none) _ _ _ (Kp.new hq) r) (by rw [show (inter D).length = ys.length from r.1.symm]; omega)
    · have h2 : ¬ (D.getD 0 0 ≠ 0 ∧ D.length < 6) := by
        intro z
        have : (!decide (sgn (D.getD 0 0) = 0) && decide (D.length < 6)) = true := by
          simp only [Bool.and_eq_true, Bool.not_eq_true', decide_eq_false_iff_not, decide_eq_true_eq, sgn_ne]
          exact z
        rw [this] at h
        cases h
      unfold doubleD
      rw [if_neg h2]
      exact ev_n 0 hv2
theorem c_root (T : Txt K mg) : Cal P w K mg base "_law_root" 10 [] (spD (Q1 fun a H Po => Po = RootP K)) := by
  refine (defD1 (N := ["_law_pot_here", "_law_way", "_law_root_poly"]) T.f_F_law_root "_law_pot_here" fun cdv A outer s E H z Po Q hr nd hp hPo hQ => ?_).named T.g__law_root
  subst hPo
  refine ss_set (pa := some z) 1 (ev_draw T hr hp (by decide) (ev_v 0) (by decide) (by decide)) fun x H1 k1 ⟨wy, e1, _⟩ => ?_
  subst e1
  refine ss_ifb (pa := some z) (k := decide (wy = 0)) (et_eqI (ev_v 1) ev_int rfl) (fun h0 H2 k2 => ?_) (fun h0 H2 k2 => ss_nil ?_)
  · exact ss_ret (pa := some z) (P := RootP K) (ev_d1 (c_never T) hr (hp.at (k1.trans k2)) (by decide) (ev_v 0) fun H3 k3 => ⟨_, rfl, fun v H4 _ h => h⟩) fun v' H' k h => hQ v' H' ((k1.trans k2).trans k) h
  · refine ss_set (pa := some z) 2 (P := fun v H' => ∃ D, Good D ∧ Good (doubleD D) ∧ RL K D v H') (ev_ixT (Pa := fun v H' => ∃ D, Good D ∧ Good (doubleD D) ∧ MadeT K D v H') (S := ⟨fun _ _ _ k ⟨D, g1, g2, t, y, r, e, ht, hy⟩ => ⟨D, g1, g2, t, y, r, e, k.get ht (fun z => z), hy.kp k⟩⟩) (ev_d1 (c_made T) hr (hp.at (k1.trans k2)) (by decide) (ev_v 0) fun H3 k3 => ⟨_, rfl, fun v H4 _ h => h⟩) ev_int
      fun v H' k ⟨D, g1, g2, t, y, r, e, ht, hy⟩ => ⟨t, _, y, e, SqT.of ht, by unfold atI; rw [show ixN (y :: r).length 0 = some 0 from ixN_nat (i := 0) (by simp)]; rfl, D, g1, g2, hy⟩) fun rp H3 k3 ⟨D, g1, g2, hD⟩ => ?_
    obtain ⟨n3, n9⟩ := good_len g1
    refine ss_ret (pa := some z) (P := RootP K) (ev_if (k := decide (wy = 1)) (et_eqI (ev_v 1) ev_int rfl) (fun _ => (ev_c1 (c_doubled T) hr (by decide) (ev_n 2 hD) fun x H4 k4 hx => ⟨_, ⟨D, hx, by omega, by omega, rfl⟩, fun v H5 _ h => h⟩).imp fun v H' _ h => ⟨_, g2, h⟩) (fun _ => (ev_n (P := RL K D) 2 hD).imp fun v H' _ h => ⟨_, g1, h⟩)) fun v' H' k h => hQ v' H' (((k1.trans k2).trans k3).trans k) h
end
end RR
-- RP6
namespace RR
open PySem PySem.Spec PyProof.Rows L2
/-- a number of the palette -/
def PN (K : PySem.W.Frag) : PoT := fun v H => ∃ r, Fb 6 30 r ∧ Num K r v H
instance {K : PySem.W.Frag} {pa : Option Addr} : Stb pa (PN K) := ⟨fun _ _ _ k ⟨r, f, h⟩ => ⟨r, f, Stb.st _ _ _ k h⟩⟩
instance {K : PySem.W.Frag} : StbL (PN K) := ⟨fun _ _ _ _ _ hD f ⟨r, b, h⟩ => ⟨r, b, StbL.st _ _ _ _ _ hD f h⟩⟩
def APN (K : PySem.W.Frag) (n : Nat) : List V → Hp → Prop := fun vs H => vs.length = n ∧ ∀ v ∈ vs, PN K v H
instance {K : PySem.W.Frag} {pa : Option Addr} {n : Nat} : StbA pa (APN K n) := ⟨fun _ _ _ k ⟨l, h⟩ => ⟨l, fun v hv => Stb.st _ _ _ k (h v hv)⟩⟩
section
variable {X : Cx} {pa : Option Addr} {σ : L2.St} {H : Hp} {elt a e : Expr} {es : List Expr} {pos p : Pos} {n : Nat} {i : Int} {r : Rat}
theorem eap0 : EvA pa X [] σ H (APN X.K 0) := EvA.of pa_nil fun H1 Q k q => q _ H1 (Kp.refl _) ⟨rfl, fun v h => by cases h⟩
theorem eap (ha : Ev pa X e σ H (PN X.K)) (hr : EvA pa X es σ H (APN X.K n)) (hs : starEach (e :: es) X.env = (false, eval e X.env) :: starEach es X.env := by rfl) : EvA pa X (e :: es) σ H (APN X.K (n + 1)) :=
  EvA.of (pa_cons ha hr hs) fun H1 Q k q => ⟨rfl, k, fun v H2 k2 pv => ⟨rfl, k.trans k2, fun vs H3 k3 ⟨l, pr⟩ => q _ H3 (k2.trans k3) ⟨by rw [List.length_cons, l], fun w hw => by
    rcases List.mem_cons.mp hw with e | h
    · rw [e]; exact Stb.st _ _ _ k3 pv
    · exact pr w h⟩⟩⟩
theorem ev_pnI (h : Ev pa X e σ H (Is (.int i))) (hi : i.natAbs ≤ 5) : Ev pa X e σ H (PN X.K) := h.imp fun v H' _ ev => ⟨(i : Rat), ((Fb.int hi).scale 6 (by decide)).mono (by decide), .inr ⟨i, ev, rfl⟩⟩
theorem ev_pnR (h : Ev pa X e σ H (IsR X.K r)) (hr : Fb 6 30 r) : Ev pa X e σ H (PN X.K) := h.imp fun v H' _ ev => ⟨r, hr, .inl ev⟩
/-- [elt for x in range(a)], how many is open -/
theorem ev_lcRS (i : Nat) {x : Str} {px pr pc : Pos} {scope : Scope} {S' : Int → Prop} (R : V → Hp → Prop) [S : Stb pa R] [L : StbL R] (hr : X.mg "range" = none) (ha : Ev pa X a σ H (IsS S')) (hz : ∀ z, S' z → 0 ≤ z ∧ z ≤ 100000) (hp : PotOk pa H)
    (he : ∀ (n : Nat) H', Kp pa H H' → InBlk pa X scope elt ((σ.set i none).set i (some (.int (n : Nat)))) H' R)
    (hx : X.N[i]? = some x := by rfl) (hN : X.N.Nodup := by assumption) (hc : X.calm = true := by rfl)
    (ok : BlkOk X.N X.env.scope scope [(x, i)] := by exact blkOk_by (by kernel_rfl))
    (hg : ∀ (s : Shared) (H : Hp) (C : Addr) (cl : List (Str × Addr)) (fp : List Addr), PG (X.blk s H scope (compEnvC scope cl C X.env) fp) (.Name x px) (gName i) := by intro _ _ _ _ _; exact pg_name (by assumption) rfl (Or.inl rfl))
    (hgr : Gl X "range" := by rfl) (hsa : starEach [a] X.env = (false, eval a X.env) :: starEach [] X.env := by rfl) (hsr : starEach [a] X.env = [(false, eval a X.env)] := by rfl)
    (hs : ∀ x, foldedSetIterable (.Call (.Name "range" pr) [a] [] pc) X.env x = pure x := by intro _; rfl) :
    Ev pa X (.ListComp elt [⟨.Name x px, .Call (.Name "range" pr) [a] [] pc, [], 0⟩] scope pos) σ H (fun v H' => ∃ z : Int, S' z ∧ NL H (Each z.toNat (fun _ => R)) v H') := by
  refine Ev.of (pe_lc (own := [(x, i)]) (g := gName i) (tt := tYes) (te := tBlk pa X scope elt) hc hN (pi_range1 hgr hr (eva1 ha hsa) hsr) ok hg (fun _ _ _ _ _ => pts_nil) (fun s H0 C cl fp => tBlk_ok s H0 C cl fp) hs) fun H1 Q k q => ⟨rfl, k, fun vs H2 k2 ⟨v, e, z, p, hS⟩ => ?_⟩
  obtain ⟨z0, z1⟩ := hz z hS
  refine ⟨z, by rw [e, p], by omega, by omega, fun D hD => ?_⟩
  have hp2 : PotOk pa H2 := hp.at (k.trans k2)
  refine lc_range (lo := 0) (n := z.toNat) (g := gName i) (tt := tYes) (te := tBlk pa X scope elt) (vs := [i]) (LcInv pa H2 D (fun _ => R)) (LcInv.start hD) (fun n H' hn w => ?_) (fun H' w => q _ _ (k2.trans w.kp) ⟨z, hS, w.done ((k.trans k2).free hD)⟩)
  rw [show ((0 : Int) + (n : Nat)) = ((n : Nat) : Int) by omega]
  refine And.intro (by show (((σ.set i none).set i (some (.int (n : Nat)))).set i none) = σ.set i none; simp) ?_
  refine ⟨R, he n H' (((k.trans k2)).trans w.kp), fun z' H4 k4 hz' => ?_⟩
  exact w.step hD hp2 k4 hz' (by omega)
end
theorem pns_row {K : PySem.W.Frag} {H : Hp} : ∀ (xs : List V), (∀ v ∈ xs, PN K v H) → ∃ qs : List Rat, qs.length = xs.length ∧ FL 6 30 qs ∧ NVs K qs xs H
  | [], _ => ⟨[], rfl, fun i => Fb.zero, rfl, fun i y e => by simp at e⟩
  | x :: xs, h => by
    obtain ⟨r, hr, hn⟩ := h x (List.mem_cons_self ..)
    obtain ⟨qs, l, f, n⟩ := pns_row xs fun v hv => h v (List.mem_cons_of_mem _ hv)
    refine ⟨r :: qs, by rw [List.length_cons, List.length_cons, l], fun i => ?_, by rw [List.length_cons, List.length_cons, l], fun i y e => ?_⟩
    · cases i with
      | zero => exact hr
      | succ i => exact f i
    · cases i with
      | zero =>
        simp at e
        subst e
        exact hn
      | succ i => exact n.2 i y (by simpa using e)
/-- a polynomial that is given to the taking off -/
structure PolyOk (n : Nat) (P : List Rat) : Prop where
  ln : P.length ≤ n
  tr : trim P = P
  fl : FL 6 30 P
theorem PolyOk.bd {n : Nat} {P : List Rat} (h : PolyOk n P) : Bd 5 P := ⟨6, 30, by decide, by decide, by decide, h.fl⟩
theorem PolyOk.sz {n : Nat} {P : List Rat} (h : PolyOk n P) : SzL P := h.bd.szl (by decide)
section
variable {P : Program} {w : World} {K : PySem.W.Frag} {mg : Str → Option Value} {base : Heap}
theorem c_poly (T : Txt K mg) : Cal P w K mg base "_law_poly" 7 [] (spD (Q2 fun a v H Po => ∃ m : Nat, v = .int (m : Nat) ∧ m ≤ 20 ∧ Po = fun v H' => ∃ P, PolyOk (m + 1) P ∧ NL H (RVs K P) v H')) := by
  refine (defD2 (N := ["_law_pot_here", "_law_most", "_law_place"]) T.f_F_law_poly "_law_pot_here" "_law_most" fun cdv A outer s E H z v Po Q hr nd hp ⟨m, ev, hm, hPo⟩ hQ => ?_).named T.g__law_poly
  subst hPo
  subst ev
  refine ss_ret (pa := some z) (P := fun v H' => ∃ P, PolyOk (m + 1) P ∧ NL H (RVs K P) v H') (ev_c1 (Pa := fun v H' => ∃ n : Int, (0 ≤ n ∧ n < (m : Int) + 2) ∧ NL H (Each n.toNat (fun _ => PN K)) v H') (c_told T) hr (by decide) (ev_lcRS (S' := fun n => 0 ≤ n ∧ n < (m : Int) + 2) 2 (PN K) T.n_range (ev_d2 (c_draw T) hr hp (by decide) (ev_v 0) (ev_add (ev_v 1) ev_int) fun v H1 _ e => ⟨_, ⟨_, e, by omega, by omega, rfl⟩, fun _ _ _ h => h⟩) (fun n hn => by omega) hp fun n H' k s0 H0 C cl fp => ?_)
    fun x H1 k1 ⟨n, hn, p, xs, e, hp0, hpp, l, hx⟩ => ?_) hQ
  · have hp' := hp.at k
    refine ev_d2 (c_pick T) hr hp' (by decide) (ev_v 0) (ev_list (R := APN K 8) (eap (ev_pnI ev_int (by decide)) (eap (ev_pnI ev_int (by decide)) (eap (ev_pnI (ev_neg ev_int) (by decide)) (eap (ev_pnI ev_int (by decide)) (eap (ev_pnI (ev_neg ev_int) (by decide)) (eap (ev_pnI ev_int (by decide)) (eap (ev_pnR (ev_rat2 T hr (by decide) (by decide) ev_int ev_int) ?_) (eap (ev_pnR (ev_rat2 T hr (by decide) (by decide) (ev_neg ev_int) ev_int) ?_) eap0)))))))) fun vs H' _ ⟨l, _⟩ => by rw [l]; exact small (by decide)) fun v H1 k1 ⟨q, xs, e, hq0, hq, l, hx⟩ => ⟨_, ⟨q, xs, e, hq, fun zz => hp'.ne hq0 (by rw [zz]), by omega, by omega, rfl⟩, fun v H2 k2 h => Stb.st _ _ _ k2 (hx v h)⟩
    · have h : Fb 2 1 (Rat.divInt 1 2) := ⟨1, rfl, by decide⟩
      exact (h.scale 3 (by decide)).mono (by decide)
    · have h : Fb 3 2 (Rat.divInt (-2) 3) := ⟨-2, rfl, by decide⟩
      exact (h.scale 2 (by decide)).mono (by decide)
  · obtain ⟨qs, lq, fq, nq⟩ := pns_row (K := K) (H := H1) xs fun v hv => by
      obtain ⟨i, hi⟩ := List.getElem?_of_mem hv
      exact hx i v hi
    refine ⟨_, ⟨qs, ⟨p, xs, e, hpp, nq⟩, fq.szl (by decide) (by decide) (by decide), by omega, rfl⟩, fun v H2 _ h => ⟨trim qs, ⟨?_, trim_trim _, fq.trim⟩, h.back k1⟩⟩
    refine Nat.le_trans (trim_le _) ?_
    omega
theorem c_is_told (T : Txt K mg) : Cal P w K mg base "_law_is_told" 3 [] (spN (P1 fun v H Po => ∃ qs, RL K qs v H ∧ trim qs = qs ∧ qs.length ≤ 500 ∧ Po = Is (.bl true))) := by
  refine (def1 (N := ["_law_value", "_law_entry"]) T.f_F_law_is_told "_law_value" fun cdv A outer s E H v Po Q hr nd ⟨qs, hv, ht, hl, hPo⟩ hQ => ?_).named T.g__law_is_told
  subst hPo
  refine ss_ret (pa := none) (P := Is (.bl true)) (ev_and2 (k := true) (k' := true && true) (ev_isi (P := RL K qs) T.n_isinstance (ev_n 0 hv) (ev_ty T.n_list) (.ty _) T.q_list_list fun v H' _ ⟨p, xs, e, hp, _⟩ => by rw [e]; exact .base (.lst hp)) fun _ => ev_and2 (k := true) (k' := true) (ev_allT (n := qs.length) T.n_all (ev_lcQ (qs := qs) 1 (fun _ => Is (.bl true)) (ev_n 0 hv) potN (by omega) fun n y H' hn hy k s0 H0 C cl fp => ev_isi (P := IsR K (qs.getD n 0)) T.n_isinstance (ev_n (P := IsR K (qs.getD n 0)) 1 hy) (ev_own T.g_Ratio) (.own _) T.q_R_R fun v H' _ e => tyR T e)) fun _ => ev_one ?_) hQ
  refine (ev_or2 (k := decide (qs.length = 0)) (k' := !decide (qs.length = 0)) ((ev_cmp (P := Is (.bl (decide (qs.length = 0)))) (op_eqNil hr.units0) (nomark _) (ev_n 0 hv) ev_nil fun x y H2 Q _ ⟨p, xs, e, hp, r⟩ ⟨p2, ys, e2, _, hp2, ey⟩ q => ⟨p, p2, xs, e, e2, hp, by rw [hp2, ey], by rw [show xs.length = qs.length from r.1]; exact q _ H2 (Kp.refl _) rfl⟩)) fun h0 => ev_one ?_).imp fun v H' _ e => by rw [show v = _ from e]; show V.bl _ = V.bl _; simp
  have h0 := of_decide_eq_false h0
  refine (ev_cmp (P := Is (.bl (!decide (qs.length = 0)))) op_ne (nomark _) (ev_sign T hr (by decide) (ev_ixR (ev_n 0 hv) (ev_neg ev_int) (qs.length - 1) (ixN_last (by omega)))) ev_int fun x y H2 Q _ px py q => ?_)
  obtain rfl : x = _ := px
  obtain rfl : y = _ := py
  refine ⟨rfl, ?_⟩
  have hne : sgn (qs.getD (qs.length - 1) 0) ≠ 0 := fun z => trim_last ht (by omega) (sgn_ne.mp z)
  refine q _ H2 (Kp.refl _) ?_
  show V.bl _ = V.bl _
  rw [decide_eq_false h0, decide_eq_false (fun z => hne (by injection z))]
end
end RR
-- RP7
namespace RR
open PySem PySem.Spec PyProof.Rows L2
section
variable {X : Cx} {pa : Option Addr} {σ : L2.St} {H : Hp} {a b : Expr} {pos p : Pos} {k : Bool} {Pc : Bool → Hp → Prop} {S' : Int → Prop} {i : Int}
/-- a and b, the second open -/
theorem et_andU (ha : Eb pa X a σ H k) (hb : Et pa X b σ H Pc) : Et pa X (.BoolOp .And [a, b] pos) σ H (fun r _ => r = true → k = true) :=
  Et.of (pw_and ha (pw_and1 hb)).pt fun H1 Q k1 q => ⟨rfl, k1, fun x H2 k2 px => by
    subst px
    cases x with
    | true => exact ⟨rfl, k1.trans k2, fun y H3 k3 _ => q y H3 (k2.trans k3) fun _ => rfl⟩
    | false => exact q false H2 k2 fun h => nomatch h⟩
/-- an open int == a known one -/
theorem et_eqS (ha : Ev pa X a σ H (IsS S')) (hb : Ev pa X b σ H (Is (.int i))) : Et pa X (.Compare a [.Eq] [b] pos) σ H (fun _ _ => True) :=
  et_cmp op_eq (nomark _) ha hb fun x y H2 Q _ ⟨j, px, _⟩ py q => by
    obtain rfl : x = .int j := px
    obtain rfl : y = .int i := py
    exact ⟨rfl, q _ H2 (Kp.refl _) trivial⟩
end
/-- what is passed to the taking off: a list or tuple of numbers, new since H0 -/
def GvP (K : PySem.W.Frag) (P : List Rat) (H0 : Hp) : PoT := fun v H => ∃ g xs qs, v = .ref g ∧ H0 g = none ∧ (H g = some (.lst xs) ∨ H g = some (.tup xs)) ∧ NVs K qs xs H ∧ (qs = P ∨ qs = P ++ [0])
theorem GvP.nlt {K : PySem.W.Frag} {P : List Rat} {H0 H : Hp} {v : V} (h : GvP K P H0 v H) : ∃ qs, NLT K qs v H ∧ (qs = P ∨ qs = P ++ [0]) := by
  obtain ⟨g, xs, qs, e, _, hg, n, hq⟩ := h
  exact ⟨qs, ⟨xs, ⟨g, e, hg⟩, n⟩, hq⟩
theorem nvs_app {K : PySem.W.Frag} {qs : List Rat} {xs : List V} {H : Hp} (h : NVs K qs xs H) : NVs K (qs ++ [0]) (xs ++ [.int 0]) H := by
  have hl : xs.length = qs.length := h.1
  refine ⟨by rw [List.length_append, List.length_append, hl]; rfl, fun i y e => ?_⟩
  show Num K ((qs ++ [0]).getD i 0) y H
  by_cases hi : i < xs.length
  · rw [List.getElem?_append_left hi] at e
    rw [app_getD (by omega)]
    exact h.2 i y e
  · have e2 : i = xs.length := by
      have := (List.getElem?_eq_some_iff.mp e).1
      simp at this
      omega
    subst e2
    rw [List.getElem?_append_right (Nat.le_refl _)] at e
    simp at e
    subst e
    rw [hl, app_getD']
    exact .inr ⟨0, rfl, Rat.intCast_zero.symm⟩
section
variable {P : Program} {w : World} {K : PySem.W.Frag} {mg : Str → Option Value} {base : Heap}
theorem c_passed (T : Txt K mg) : Cal P w K mg base "_law_passed" 3 [] (spD (Q2 fun a v H Po => ∃ P, RL K P v H ∧ P.length ≤ 30 ∧ Po = GvP K P H)) := by
  refine (defD2 (N := ["_law_pot_here", "_law_poly_here", "_law_found", "_law_entry"]) T.f_F_law_passed "_law_pot_here" "_law_poly_here" fun cdv A outer s E H z v Po Q hr nd hp ⟨P0, hv, lP, hPo⟩ hQ => ?_).named T.g__law_passed
  subst hPo
  obtain ⟨pv, vs, rfl, hv0, rv⟩ := id hv
  have hl : vs.length = P0.length := rv.1
  refine ss_setL (pa := some z) 2 3 vs (fun n => Num K (P0.getD n 0)) (ev_v 1) hp (by omega) (fun v' H' k e => ⟨pv, e, fun H'' k2 => SqL.of ((k.trans k2).get hv0 rv.notPot)⟩) (fun n y H' hy k s0 H0 C cl fp => ?_) fun x H1 k1 hx => ?_
  · have hy' : IsR K (P0.getD n 0) y H' := Stb.st (pa := some z) _ _ _ k (rv.2 n y hy)
    have hp' := hp.at k
    refine ev_ifP (et_andU (k := decide ((P0.getD n 0).den = 1)) (et_eqI (ev_pbot T hr (by decide) (ev_n (P := IsR K (P0.getD n 0)) 3 hy')) ev_int (decide_eq_decide.mpr (by omega))) (et_eqS (ev_draw T hr hp' (by decide) (ev_v 0) (by decide) (by decide)) ev_int)) (fun H2 k2 h => ?_) (fun H2 k2 _ => ?_)
    · have h1 : (P0.getD n 0).den = 1 := of_decide_eq_true (h rfl)
      refine (ev_ptop T hr (by decide) (ev_n (P := IsR K (P0.getD n 0)) 3 (hy'.kp k2))).imp fun v' H3 _ e => .inr ⟨_, e, rat_of h1⟩
    · exact (ev_n (P := IsR K (P0.getD n 0)) 3 (hy'.kp k2)).imp fun v' H3 _ e => .inl e
  rw [hl] at hx
  obtain ⟨pf, fs, rfl, hf0, hf1, rvf⟩ := hx
  have hp1 := hp.at k1
  -- the tail
  have tail : ∀ (pg : Addr) (gs : List V) (qs : List Rat) (o : Option V) (H2 : Hp), Kp (some z) H H2 → H pg = none → H2 pg = some (.lst gs) → NVs K qs gs H2 → (qs = P0 ∨ qs = P0 ++ [0]) →
      Ss (bodyX P w K mg base ["_law_pot_here", "_law_poly_here", "_law_found", "_law_entry"] d_F_law_passed cdv A outer s H E) (d_F_law_passed.body.drop 2) [some (.ref z), some (.ref pv), some (.ref pg), o] H2 { nx := fun _ H' => Q .non H', rt := Q } := fun pg gs qs o H2 k2 g0 g2 rg hq => by
    have hp2 := hp.at k2
    have hne : (some z : Option Addr) ≠ some pg := hp.ne g0
    refine ss_ret (pa := some z) (P := GvP K P0 H) (ev_ifP (et_eqS (ev_draw T hr hp2 (by decide) (ev_v 0) (by decide) (by decide)) ev_int) (fun H3 k3 _ => ?_) (fun H3 k3 _ => ?_)) fun v' H' k h => hQ v' H' (k2.trans k) h
    · have g3 := k3.ne g2 hne
      refine ev_ty1 call_tuple_of (by decide +kernel) T.n_tuple (ea1 (P := Is (.ref pg)) (ev_v 2)) fun vs' H4 Q' k4 ⟨a, r, e, ea', er⟩ qq => ?_
      obtain rfl : r = [] := er
      obtain rfl : a = _ := ea'
      refine ⟨pg, gs, by rw [e], .inl ⟨SqL.of (k4.ne g3 hne), fun l hl' => qq _ _ (Kp.new hl') ⟨l, gs, qs, rfl, ((k2.trans k3).trans k4).free hl', .inr upd_same, StbA.st _ _ _ (((k3.trans k4).trans (Kp.new hl'))) rg, hq⟩⟩⟩
    · exact (ev_v 2).imp fun v' H4 k4 e => ⟨pg, gs, qs, e, g0, .inl (k4.ne (k3.ne g2 hne) hne), StbA.st _ _ _ (k3.trans k4) rg, hq⟩
  have hne : (some z : Option Addr) ≠ some pf := hp.ne hf0
  refine ss_if (pa := some z) (et_eqS (ev_draw T hr hp1 (by decide) (ev_v 0) (by decide) (by decide)) ev_int) (fun H2 k2 _ => ?_) (fun H2 k2 _ => ss_nil ?_)
  · have hf2 := k2.ne hf1 hne
    refine ss_set (pa := some z) 2 (P := fun v' H' => ∃ q, v' = .ref q ∧ H2 q = none ∧ H' q = some (.lst (fs ++ [.int 0]))) (ev_cat (Pa := Is (.ref pf)) (Pb := IL [0]) (S := inferInstance) (ev_v 2) (ev_lst1 ev_int) fun a b H3 k3 ea' ⟨pb, eb, hb⟩ => ⟨pf, pb, fs, _, ea', eb, k3.ne hf2 hne, hb, small (by rw [show fs.length = P0.length from rvf.1]; show P0.length + 1 ≤ 100000; omega), fun q hq => ⟨q, rfl, k3.free hq, upd_same⟩⟩) fun x H3 k3 ⟨q, ex, q0, q1⟩ => ss_nil ?_
    subst ex
    exact tail q _ (P0 ++ [0]) _ H3 ((k1.trans k2).trans k3) ((k1.trans k2).free q0) q1 (nvs_app (StbA.st _ _ _ (k2.trans k3) rvf)) (.inr rfl)
  · exact tail pf fs P0 _ H2 (k1.trans k2) hf0 (k2.ne hf1 hne) (StbA.st _ _ _ k2 rvf) (.inl rfl)
end
end RR
-- RP8
namespace RR
open PySem PySem.Spec PyProof.Rows L2
/-! ### texts -/
/-- the text of a number's digits -/
def sgT (i : Int) : Str := if i < 0 then Str.ofString "-" else Str.ofString ""
def digT (i : Int) : Str := ((Str.empty ++ sgT i) ++ Str.ofString (toString (if i < 0 then 0 - i else i))) ++ Str.ofString ""
def ratT (q : Rat) : Str := ((((Str.empty ++ Str.ofString "Ratio(") ++ digT q.num) ++ Str.ofString ", ") ++ digT (q.den : Int)) ++ Str.ofString ")"
theorem txt64 {i : Int} (h : i.natAbs < 2 ^ 64) : (Str.ofString (toString i)).length ≤ 65 ∧ i.natAbs.log2 < 1920 := by
  have h1 : i.natAbs.log2 < 64 := log2_lt h (by decide)
  have := int_text_length_le (k := 64) (by decide) h1
  exact ⟨by rw [PySem.ofString_length]; omega, by omega⟩
theorem sgT_len (i : Int) : (sgT i).length ≤ 1 := by
  unfold sgT
  split <;> decide
theorem digT_len {i : Int} (h : i.natAbs < 2 ^ 64) : (digT i).length ≤ 70 := by
  unfold digT
  have h1 := sgT_len i
  have h2 := (txt64 (i := if i < 0 then 0 - i else i) (by split <;> omega)).1
  rw [strLen_append, strLen_append, strLen_append]
  have h3 : (Str.empty).length = 0 := rfl
  have h4 : (Str.ofString "").length = 0 := rfl
  omega
theorem ratT_len {q : Rat} (h : q.num.natAbs < 2 ^ 64) (h' : q.den < 2 ^ 64) : (ratT q).length ≤ 200 := by
  unfold ratT
  have h1 := digT_len h
  have h2 := digT_len (i := (q.den : Int)) (by omega)
  rw [strLen_append, strLen_append, strLen_append, strLen_append, strLen_append]
  have h3 : (Str.empty).length = 0 := rfl
  have h4 : (Str.ofString "Ratio(").length = 6 := rfl
  have h5 : (Str.ofString ", ").length = 2 := rfl
  have h6 : (Str.ofString ")").length = 1 := rfl
  omega
theorem small200 {n : Nat} (h : n ≤ 1000) : n ≤ sizeLine := small (by omega)
section
variable {X : Cx} {pa : Option Addr} {σ : L2.St} {H : Hp} {a e : Expr} {es : List Expr} {pos : Pos} {i : Int} {y acc : Str} {ts : List TE}
theorem ev_fmtS (ha : Ev pa X a σ H (Is (.str y))) (hy : y.length ≤ 1000) : Ev pa X (.FormattedValue a (-1) none pos) σ H (Is (.str y)) :=
  Ev.of (pe_fmt ha) fun H1 Q k q => ⟨rfl, k, fun v H2 k2 p => .inl ⟨y, p, small200 hy, q _ H2 k2 rfl⟩⟩
theorem ev_fmtI (ha : Ev pa X a σ H (Is (.int i))) (hi : i.natAbs < 2 ^ 64) : Ev pa X (.FormattedValue a (-1) none pos) σ H (Is (.str (Str.ofString (toString i)))) :=
  Ev.of (pe_fmt ha) fun H1 Q k q => ⟨rfl, k, fun v H2 k2 p => .inr ⟨i, p, (txt64 hi).2, q _ H2 k2 rfl⟩⟩
/-- the parts of an f-string, their texts one behind the other -/
def EvJ (pa : Option Addr) (X : Cx) (es : List Expr) (σ : L2.St) (H : Hp) (f : Str → Str) (n : Nat) : Prop := ∃ ts, PJ X es ts ∧ ∀ acc H1 (Q : Str → Hp → Prop), acc.length + n ≤ 1000 → Kp pa H H1 → (∀ H2, Kp pa H1 H2 → Q (f acc) H2) → tJs ts acc σ H1 Q
theorem evj0 : EvJ pa X [] σ H id 0 := ⟨[], .nil, fun acc H1 Q _ k q => q H1 (Kp.refl _)⟩
theorem evj {f : Str → Str} {n m : Nat} (ha : Ev pa X e σ H (Is (.str y))) (hy : y.length ≤ m) (hr : EvJ pa X es σ H f n) : EvJ pa X (e :: es) σ H (fun acc => f (acc ++ y)) (m + n) := by
  obtain ⟨ts, hp, h⟩ := hr
  refine ⟨_, .cons ha hp, fun acc H1 Q hl k q => ⟨rfl, k, fun v H2 k2 pv => ⟨y, pv, ?_, ?_⟩⟩⟩
  · rw [strLen_append]
    exact small200 (by omega)
  · refine h (acc ++ y) H2 Q ?_ (k.trans k2) fun H3 k3 => q H3 (k2.trans k3)
    rw [strLen_append]
    omega
theorem ev_join {v1 v2 : Expr} {rest : List Expr} {f : Str → Str} {n : Nat} (h : EvJ pa X (v1 :: v2 :: rest) σ H f n) (hn : n ≤ 1000) (hy : f Str.empty = y) : Ev pa X (.JoinedStr (v1 :: v2 :: rest) pos) σ H (Is (.str y)) := by
  subst hy
  obtain ⟨ts, hp, h⟩ := h
  exact Ev.of (pe_joined hp) fun H1 Q k q => h Str.empty H1 _ (by show 0 + n ≤ 1000; omega) k fun H2 k2 => q _ H2 k2 rfl
end
section
variable {P : Program} {w : World} {K : PySem.W.Frag} {mg : Str → Option Value} {base : Heap}
theorem c_digits (T : Txt K mg) : Cal P w K mg base "digits_of" 1 [] (spN (P1 fun v H Po => ∃ i : Int, v = .int i ∧ i.natAbs < 2 ^ 64 ∧ Po = Is (.str (digT i)))) := by
  refine (def1 (N := ["number", "left", "told", "part", "sign"]) T.f_Fdigits_of "number" fun cdv A outer s E H v Po Q hr nd ⟨i, ev, hi, hPo⟩ hQ => ?_).named T.g_digits_of
  subst hPo
  subst ev
  obtain ⟨tk, iP⟩ := T.i_PART
  have hP : (10 : Int) ^ 60 = 1000000000000000000000000000000000000000000000000000000000000 := by decide
  refine ss_par (pa := none) (Pa := Is (.int (if i < 0 then 0 - i else i))) (Pb := Is (.str (Str.ofString ""))) 1 2 (eva2 (ev_if (k := decide (0 ≤ i)) (et_ge (ev_v 0) ev_int rfl) (fun h => (ev_v 0).imp fun v H' _ e => ?_) (fun h => (ev_sub ev_int (ev_v 0)).imp fun v H' _ e => ?_)) ev_str) fun x y H1 k1 e1 e2 => ?_
  · have h := of_decide_eq_true h
    rw [if_neg (by omega)]
    exact e
  · have h := of_decide_eq_false h
    rw [if_pos (by omega)]
    exact e
  subst e1
  subst e2
  have hl : (if i < 0 then 0 - i else i).natAbs < 2 ^ 64 := by split <;> omega
  refine ss_while (pa := none) (fun n σ H' => Kp none H H' ∧ σ = [some (V.int i), some (V.int (if i < 0 then 0 - i else i)), some (V.str (Str.ofString "")), none, none]) 0 ⟨k1, rfl⟩ fun n σ' H2 ⟨k2, hσ⟩ => ?_
  subst hσ
  refine ⟨_, et_ge (k := false) (ev_v 1) (ev_glob (v := .int (10 ^ 60)) iP ⟨_, rfl⟩) (decide_eq_false ?_), fun H3 k3 e3 => (nomatch e3), fun H3 k3 _ => ?_⟩
  · rw [hP]
    split at hl <;> (split <;> omega)
  refine ss_set (pa := none) 4 (P := Is (.str (sgT i))) (ev_if (k := decide (i < 0)) (et_lt (ev_v 0) ev_int rfl) (fun h => ev_str.imp fun v H' _ e => ?_) (fun h => ev_str.imp fun v H' _ e => ?_)) fun x H4 k4 ex => ?_
  · unfold sgT
    rw [if_pos (of_decide_eq_true h)]
    exact e
  · unfold sgT
    rw [if_neg (of_decide_eq_false h)]
    exact e
  subst ex
  refine ss_ret (pa := none) (P := Is (.str (digT i))) ?_ fun v' H' k h => hQ v' H' (((k2.trans k3).trans k4).trans k) h
  exact (ev_join (evj (ev_fmtS (ev_v 4) (Nat.le_trans (sgT_len i) (by decide))) (sgT_len i) (evj (ev_fmtI (ev_v 1) hl) (txt64 hl).1 (evj (m := 0) (ev_fmtS (ev_v 2) (by decide)) (by decide) evj0))) (by decide) rfl)
theorem a_repr (T : Txt K mg) : CalA P w K mg base (d_MRatio_repr.adr K) 2 (spN (P1 fun v H Po => ∃ q, IsR K q v H ∧ q.num.natAbs < 2 ^ 64 ∧ q.den < 2 ^ 64 ∧ Po = Is (.str (ratT q)))) := by
  refine def1 (N := ["self"]) T.f_MRatio_repr "self" fun cdv A outer s E H v Po Q hr nd ⟨q, hv, h1, h2, hPo⟩ hQ => ?_
  subst hPo
  have h2' : ((q.den : Int)).natAbs < 2 ^ 64 := by omega
  refine ss_ret (pa := none) (P := Is (.str (ratT q))) ?_ hQ
  exact (ev_join (evj (m := 6) ev_str (by decide) (evj (ev_fmtS (ev_c1 (c_digits T) hr (by decide) (ev_top T (ev_n 0 hv)) fun x H1 _ e => ⟨_, ⟨_, e, h1, rfl⟩, fun _ _ _ h => h⟩) (Nat.le_trans (digT_len h1) (by decide))) (digT_len h1) (evj (m := 2) ev_str (by decide)
    (evj (ev_fmtS (ev_c1 (c_digits T) hr (by decide) (ev_bot T (ev_n 0 hv)) fun x H1 _ e => ⟨_, ⟨_, e, h2', rfl⟩, fun _ _ _ h => h⟩) (Nat.le_trans (digT_len h2') (by decide))) (digT_len h2') (evj (m := 1) ev_str (by decide) evj0))))) (by decide) rfl)
end
end RR
-- RPR
namespace RR
open PySem PySem.Spec PyProof.Rows L2 PySem.W Builtin
/-- an own object's text inside a list's or a tuple's -/
theorem under_own {M : Model} {A : Around} {E : Value → Shared → Prop} {s : Shared} {K : Frag} {x C f : Addr} {ox : Obj} {od : Option Obj} {b : Nat} {Q : Str → Shared → Prop} (hb : b ≤ sizeLine) (hu : A.units < cLine) (X : K.In s.heap) (I : PySem.W.InstAt s.heap x ox C od)
    (hs : findIn K (.ref C) "__repr__" = some (some (.ref f))) (hf : isFn K (.ref f) = true) (h : wpAny M A (call (.ref f) [.ref x]) (fun v s' => ∃ y u, v = .str y u ∧ Q y s') E s) : wpAny M A (pyReprUnder b (.ref x)) Q E s := by
  refine wpAny_pyReprUnder_ref hb ?_
  unfold pyReprObjUnder pyReprObjBy
  refine wpAny_bind (wpAny_cRoomFor hu ?_)
  refine wpAny_bind (wpAny_bind (I.type.here ((looks_findIn X hs).here ?_)))
  show wpAny _ _ (if (some (Value.ref f)).isNone = true then _ else _) _ _ _
  rw [if_neg (by simp)]
  refine wpAny_bind (m := callSpecialIfBoundBy? _ (.ref x) (Str.ofString "__repr__")) ?_
  simp only [callSpecialIfBoundBy?, bindSpecialIfBound?]
  refine wpAny_holding (wpAny_bind (wpAny_bind (wpAny_bind (I.type.here ((looks_findIn X hs).here ?_)))))
  refine wpAny_bind (wpAny_askSetting (wpAny_ite ?_))
  have fin : wpAny M A (call (.ref f) ([.ref x] ++ []) >>= fun v => pure (some v)) (fun r s' => wpAny M A (match r with
    | some r => do if ← isInstance r (.type "str") then pure r else raiseError "TypeError" s!"__repr__ returned non-string (type {← typeNameOf r})"
    | none => unsupported "repr:special-get-raises") (fun v s' => ∃ y u, v = .str y u ∧ Q y s') E s') E s := by
    refine wpAny_bind (wpAny_mono h (fun v s' h' => wpAny_pure ?_) fun _ _ h' => h')
    obtain ⟨y, u, rfl, hq⟩ := h'
    refine wpAny_bind (wpAny_isInstance (typeIs_str _ _ _) isSubtype_str_str ?_)
    first
      | exact wpAny_pure ⟨_, _, rfl, hq⟩
      | (rw [if_pos rfl]; exact wpAny_pure ⟨_, _, rfl, hq⟩)
      | (simp only [if_true]; exact wpAny_pure ⟨_, _, rfl, hq⟩)
  split
  · exact wpAny_bind ((bind_fn X _ (beq_iff_eq.mp hf)).here (wpAny_pure (by exact fin)))
  · exact wpAny_tryCatch (wpAny_bind ((bind_fn X _ (beq_iff_eq.mp hf)).here (wpAny_pure (by exact fin))))
end RR
-- RPS
namespace RR
open PySem PySem.Spec PyProof.Rows L2 PySem.W Builtin
abbrev TxD := V → Str → Hp → Prop
/-- the text of what D says, inside a list or a tuple -/
def TxG (X : Cx) (n : Nat) (D : TxD) : Prop := ∀ (A : Around) (pins : List (Addr × Obj)) (s : Shared) (σ : L2.St) (H : Hp) (x : V) (t : Str) (u : Value) (b : Nat), L2.Sub X n A → Inv X pins σ H s → RelV x u → D x t H → b + t.length ≤ sizeLine →
  wpAny (model X.prog X.w) A (pyReprUnder b u) (fun r s' => r = t ∧ ∃ H', Inv X pins σ H' s' ∧ Ext H H') X.xe s
/-- an int or a small Ratio -/
def DTx (K : PySem.W.Frag) : TxD := fun x t H => (∃ i : Int, x = .int i ∧ i.natAbs < 2 ^ 64 ∧ t = Str.ofString (toString i)) ∨ ∃ q, IsR K q x H ∧ q.num.natAbs < 2 ^ 64 ∧ q.den < 2 ^ 64 ∧ t = ratT q
theorem dtx_mon {K : PySem.W.Frag} {x : V} {t : Str} {H H' : Hp} (h : DTx K x t H) (e : Ext H H') : DTx K x t H' := h.imp id fun ⟨q, a, b⟩ => ⟨q, a.kp (Kp.ofE (pa := none) e), b⟩
theorem txG (X : Cx) (T : Txt X.K X.mg) : TxG X 2 (DTx X.K) := by
  intro A pins s σ H x t u b sb I rx d hb
  rcases d with ⟨i, rfl, hi, rfl⟩ | ⟨q, hq, h1, h2, rfl⟩
  · obtain ⟨tk, rfl⟩ := rx
    exact ReprIs.int tk (txt64 hi).2 b hb A X.xe s _ fun tk => ⟨rfl, H, I.tok _, Ext.rfl'⟩
  · obtain ⟨a, dx, ea, ha⟩ := id hq
    subst ea
    cases rx
    obtain ⟨mA, J, _⟩ := ins_get I.hok ha
    obtain ⟨od, J, _⟩ := J.look
    obtain ⟨fd, ps, F, kp, bd⟩ := (a_repr (P := X.prog) (w := X.w) (base := X.base) T).ex
    refine under_own (by omega) sb.room.units0 I.kIn J T.o_repr T.of_repr ?_
    have hsp : spN (P1 fun v H Po => ∃ q, IsR X.K q v H ∧ q.num.natAbs < 2 ^ 64 ∧ q.den < 2 ^ 64 ∧ Po = Is (.str (ratT q))) [.ref a] H (fun v H' => v = .str (ratT q) ∧ Ext H H') E0 := ⟨_, ⟨_, rfl, q, hq, h1, h2, rfl⟩, fun v H' k e => ⟨e, k.ext⟩⟩
    have e0 : Env0 X.prog X.w X.K X.mg X.base A X.stack s H := by
      have e := I.env0
      exact ⟨by rw [sb.fr]; exact e.frames, e.mod, e.bs, e.bsz, e.funs, e.frf, e.hok, e.bare⟩
    have hl := F.len _ _ _ _ hsp
    refine wpAny_call (codeAny_mono (F.run A X.stack s H ⟨[.ref a], []⟩ [.ref a] [.ref a] _ E0 sb.room e0 (by
      have := bd s [.ref a] I.kIn (by simpa using hl)
      simpa using this) (.cons rfl .nil) hsp) fun r s' hq => ?_)
    cases r with
    | error e => exact pass0 pins σ H s e s' I hq
    | ok fl =>
      cases fl with
      | ret w =>
        obtain ⟨z, H', I', rz, ez, ex⟩ := I.after hq
        subst ez
        obtain ⟨tk, rfl⟩ := rz
        exact ⟨_, _, rfl, rfl, H', I', ex⟩
      | next => exact False.elim hq
      | brk => exact False.elim hq
      | cont => exact False.elim hq
end RR
-- RPT
namespace RR
open PySem PySem.Spec PyProof.Rows L2 PySem.W Builtin
theorem loop_frames (A : Around) (args : Args) : (A.under (.builtin "list.__repr__.loop" args)).frames = A.frames := by
  cases h : A.frames <;> simp [Around.under, Code.envs, Code.isFrame, pushEnvs, h]
theorem loop_units (A : Around) (args : Args) : (A.under (.builtin "list.__repr__.loop" args)).units ≤ A.units + 16 := by
  first | (simp [Around.under, Code.cUnits, Code.frames, Code.isFrame]; done) | (simp [Around.under, Code.cUnits, Code.frames, Code.isFrame]; omega)
theorem loop_depth (A : Around) (args : Args) : (A.under (.builtin "list.__repr__.loop" args)).depth ≤ A.depth + 3 := by
  have c1 : (Code.builtin "list.__repr__.loop" args).isCreation = false := by first | rfl | kernel_rfl
  have c2 : (Code.builtin "list.__repr__.loop" args).isCaller = false := by first | rfl | kernel_rfl
  simp [Around.under, Code.weight, Code.frames, Code.isFrame, c1, c2]
  split <;> omega
theorem loop_handled (A : Around) (args : Args) : (A.under (.builtin "list.__repr__.loop" args)).handled = A.handled := by
  first | rfl | simp [Around.under]
theorem loop_sub {X : Cx} {n : Nat} {A : Around} (sb : L2.Sub X (n + 1) A) (args : Args) : L2.Sub X n (A.under (.builtin "list.__repr__.loop" args)) := by
  have h1 := loop_units A args
  have h2 := loop_depth A args
  have d := sb.room.dp
  have u := sb.room.un
  exact ⟨⟨by rw [loop_handled]; exact sb.room.hd, by omega, by omega⟩, by rw [loop_frames]; exact sb.fr⟩
theorem vals_strs : ∀ {ts : List Str} {its : List Value}, Vals (ts.map V.str) its → ∃ done, its = strValues done ∧ done.map (·.1) = ts
  | [], _, .nil => ⟨[], rfl, rfl⟩
  | t :: ts, u :: us, .cons r rs => by
    obtain ⟨tk, e⟩ := r
    obtain ⟨done, e2, e3⟩ := vals_strs rs
    refine ⟨(t, tk) :: done, ?_, by rw [List.map_cons, e3]⟩
    rw [e, e2]
    rfl
section
variable {X : Cx} {n : Nat} {D : TxD} {pins : List (Addr × Obj)} {σ : L2.St} {H0 : Hp} {a P : Addr} {xs : List V} {ts : List Str} {A : Around} {R : Result → Shared → Prop} {b : Nat}
theorem repr_loopG (h : TxG X n D) (hD : ∀ {x t H H'}, D x t H → Ext H H' → D x t H') (sb : L2.Sub X (n + 1) A) (hPn : H0 P = none) (ha0 : H0 a = some (.lst xs)) (hlen : ts.length = xs.length) (hd : ∀ (i : Nat) x t, xs[i]? = some x → ts[i]? = some t → D x t H0) (hsz : b + (listText ts).length ≤ sizeLine)
    (hE : ∀ e s, X.xe e s → R (.error e) s) (hR : ∀ H' s u, Inv X pins σ H' s → Ext H0 H' → R (.ok (.ret (.str (listText ts) u))) s) :
    ∀ (k i : Nat) (s : Shared) (H : Hp), xs.length - i = k → i ≤ xs.length → Inv X pins σ H s → Ext H0 H → H P = some (.lst ((ts.take i).map V.str)) →
    codeAny (model X.prog X.w) A (.builtin "list.__repr__.loop" ⟨[.ref a, rawInt i, .ref P, rawInt ((b + piled (ts.take i) : Nat) : Int)], []⟩) R s := by
  have hL := textFrom_len ts 0 "["
  have hX : (listText ts).length = (textFrom 0 "[" ts).length + 1 := by
    show (textFrom 0 "[" ts ++ "]").length = _
    rw [strLen_append]; rfl
  have hsz2 : ∀ t ∈ ts, t.length ≤ sizeLine := fun t ht => by
    have h2 := hL.2.1 t ht
    omega
  have hsz3 : (listText ts).length ≤ sizeLine := by omega
  have hp3 := piled_le_listText ts
  have haP : a ≠ P := fun z => by rw [z, hPn] at ha0; cases ha0
  intro k
  induction k with
  | zero =>
    intro i s H hk hi I hx hP
    have hin : i = xs.length := by omega
    obtain ⟨_, its, na, rv, hl, ea⟩ := I.lstM (hx _ _ ha0)
    obtain ⟨_, its2, nP, rvP, hlP, eP⟩ := I.lstM hP
    refine codeAny_builtin PySem.F.entry_list_repr_loop ?_
    show wpAny _ _ («list.__repr__.loop» ⟨[.ref a, .int i 0, .ref P, .int ((b + piled (ts.take i) : Nat) : Int) 0], []⟩) _ _ s
    rw [repr_loop_tree]
    refine wpAny_bind (wpAny_listItems ea rfl ?_)
    have hnone : its.toArray[(i : Int).toNat]? = none := by simp [hin, hl]
    simp only [hnone]
    unfold reprEnd
    refine wpAny_bind (wpAny_listItems eP rfl ?_)
    obtain ⟨done, e1, e2⟩ := vals_strs rvP
    rw [show its2.toArray.toList = strValues done by simp [e1], repr_fold]
    refine wpAny_bind (wpAny_pure ?_)
    have hall : done.map (·.1) = ts := by rw [e2, hin, ← hlen, List.take_length]
    rw [hall]
    refine wpAny_bind (wpAny_mkStr (wpAny_pure ?_) hsz3)
    exact hR H _ _ (I.tok _) hx
  | succ k ih =>
    intro i s H hk hi I hx hP
    have hlt : i < xs.length := by omega
    obtain ⟨_, its, na, rv, hl, ea⟩ := I.lstM (hx _ _ ha0)
    have hi1 : i < its.length := by omega
    have ht : ts[i]? = some ts[i] := List.getElem?_eq_getElem (by omega)
    have hxi : xs[i]? = some xs[i] := List.getElem?_eq_getElem hlt
    obtain ⟨u, hu, ru⟩ := rv.get hxi
    have hp1 := piled_take_succ ht
    have hp2 := piled_take_le ts (i + 1)
    refine codeAny_builtin PySem.F.entry_list_repr_loop ?_
    show wpAny _ _ («list.__repr__.loop» ⟨[.ref a, .int i 0, .ref P, .int ((b + piled (ts.take i) : Nat) : Int) 0], []⟩) _ _ s
    rw [repr_loop_tree]
    refine wpAny_bind (wpAny_listItems ea rfl ?_)
    have hsome : its.toArray[(i : Int).toNat]? = some u := by simpa using hu
    simp only [hsome]
    rw [Int.toNat_natCast]
    refine wpAny_bind (wpAny_holding (wpAny_mono (h _ pins s σ H xs[i] ts[i] u _ (loop_sub sb _) I ru (hD (hd i _ _ hxi ht) hx) (by omega)) (fun r s2 q => ?_) fun e s' z => hE e s' z))
    obtain ⟨er, H2, I2, x2⟩ := q
    subst er
    refine wpAny_bind (wpAny_mkStr ?_ (hsz2 _ (List.mem_of_getElem? ht)))
    have hP2 := x2 _ _ hP
    have I3 := I2.tok (s2.toks + 1)
    obtain ⟨_, its2, nP, rvP, hlP, eP⟩ := I3.lstM hP2
    refine wpAny_bind ?_
    show wpAny _ _ (updateSeq P _) _ _ _
    have hasz : its2.toArray.size ≤ sizeLine := by
      rw [List.size_toArray, ← hlP, List.length_map, List.length_take]
      have h1 := hL.1
      rw [if_neg (Nat.lt_irrefl 0)] at h1
      omega
    refine wpAny_updateSeq eP rfl (wpAny_pure ⟨PySem.F.quiet_list_repr_loop _, ?_⟩) hasz
    have e1 : ((i : Int) + 1) = ((i + 1 : Nat) : Int) := by omega
    have e2 : b + piled (ts.take i) + (ts[i].length + 2) = b + piled (ts.take (i + 1)) := by omega
    rw [e1, e2]
    have et : ((ts.take i).map V.str) ++ [V.str ts[i]] = (ts.take (i + 1)).map V.str := by rw [List.take_add_one, ht, List.map_append]; rfl
    refine ih (i + 1) _ (upd H2 P (.lst ((ts.take (i + 1)).map V.str))) (by omega) hlt ?_ (fun c o hc => ?_) upd_same
    · refine I3.lset (its' := its2 ++ [.str ts[i] s2.toks]) hP2 eP (by simp) (by rw [← et]; exact rvP.append (.cons ⟨_, rfl⟩ .nil)) ?_
      rw [List.length_map, List.length_take]
      have h1 := hL.1
      rw [if_neg (Nat.lt_irrefl 0)] at h1
      omega
    · have nc : c ≠ P := fun z => by rw [z, hPn] at hc; cases hc
      rw [upd_ne nc]
      exact x2 _ _ (hx _ _ hc)
end
end RR
-- RPU
namespace RR
open PySem PySem.Spec PyProof.Rows L2 PySem.W Builtin
theorem in1_sub {X : Cx} {n : Nat} {A : Around} (sb : L2.Sub X (n + 1) A) : L2.Sub X n A.in1 := sb.in1
theorem trepr_frames (A : Around) (args : Args) : (A.under (.builtin "tuple.__repr__" args)).frames = A.frames := by
  cases h : A.frames <;> simp [Around.under, Code.envs, Code.isFrame, pushEnvs, h]
theorem trepr_units (A : Around) (args : Args) : (A.under (.builtin "tuple.__repr__" args)).units ≤ A.units + 16 := by
  first | (simp [Around.under, Code.cUnits, Code.frames, Code.isFrame]; done) | (simp [Around.under, Code.cUnits, Code.frames, Code.isFrame]; omega)
theorem trepr_depth (A : Around) (args : Args) : (A.under (.builtin "tuple.__repr__" args)).depth ≤ A.depth + 3 := by
  have c1 : (Code.builtin "tuple.__repr__" args).isCreation = false := by first | rfl | kernel_rfl
  have c2 : (Code.builtin "tuple.__repr__" args).isCaller = false := by first | rfl | kernel_rfl
  simp [Around.under, Code.weight, Code.frames, Code.isFrame, c1, c2]
  split <;> omega
theorem trepr_sub {X : Cx} {n : Nat} {A : Around} (sb : L2.Sub X (n + 1) A) (args : Args) : L2.Sub X n (A.under (.builtin "tuple.__repr__" args)) := by
  have h1 := trepr_units A args
  have h2 := trepr_depth A args
  have d := sb.room.dp
  have u := sb.room.un
  exact ⟨⟨sb.room.hd, by omega, by omega⟩, by rw [trepr_frames]; exact sb.fr⟩
section
variable {X : Cx} {n : Nat} {D : TxD} {pins : List (Addr × Obj)} {σ : L2.St} {H0 : Hp} {a : Addr} {xs : List V} {ts : List Str} {A : Around} {b : Nat} {s : Shared}
/-- list.__repr__ -/
theorem repr_listG {Q : Value → Shared → Prop} (h : TxG X n D) (hD : ∀ {x t H H'}, D x t H → Ext H H' → D x t H') (sb : L2.Sub X (n + 1) A) (hg : A.guards = some []) (I : Inv X pins σ H0 s) (ha0 : H0 a = some (.lst xs)) (hlen : ts.length = xs.length) (hd : ∀ (i : Nat) x t, xs[i]? = some x → ts[i]? = some t → D x t H0)
    (hsz : (listText ts).length ≤ sizeLine) (hQ : ∀ H' s u, Inv X pins σ H' s → Ext H0 H' → Q (.str (listText ts) u) s) : wpAny (model X.prog X.w) A (call (.builtin "list.__repr__") [.ref a]) Q X.xe s := by
  obtain ⟨_, its, na, rv, hl, ea⟩ := I.lstM ha0
  have hTy : s.TypeIs (.ref a) "list" := ⟨_, ea, rfl⟩
  cases its with
  | nil =>
    have hx0 : xs.length = 0 := by rw [hl]; rfl
    have ht : ts = [] := List.eq_nil_of_length_eq_zero (by omega)
    subst ht
    exact call_list_repr_empty hTy ea rfl (hQ H0 _ _ (I.tok _) Ext.rfl')
  | cons u its =>
    refine wpAny_call (codeAny_call_builtin PySem.F.slot_list_repr.plain PySem.F.entry_list_repr (PySem.F.slot_list_repr.check _ _ _ _ _ _ _ _ hTy (PySem.F.args_list_repr_1 _) ?_))
    refine wpAny_list_repr_head (A := A.in1) (g := []) hg (fun v rest kw h => by cases h) ea rfl ?_
    refine wpAny_bind (m := newList []) (wpAny_newObj_type ?_)
    refine wpAny_pure ⟨PySem.F.quiet_list_repr_loop _, ?_⟩
    have hn : H0 s.heap.objs.size = none := I.fresh
    have I2 : Inv X pins σ (upd H0 s.heap.objs.size (.lst [])) { s with heap := s.heap.push { cls := .type "list", data := .seq (#[] : Array Value) } } := I.lnew (its := []) .nil (Nat.zero_le _)
    have e0 : ((0 : Nat) : Int) = ((0 + piled (ts.take 0) : Nat) : Int) := rfl
    refine repr_loopG (P := s.heap.objs.size) (R := _) (b := 0) h hD sb hn ha0 hlen hd (by omega) (fun e s z => z) (fun H' s u I' x => hQ H' s u I' x) xs.length 0 _ _ (by omega) (Nat.zero_le _) I2 (Ext.upd hn) upd_same
/-- the fold over a tuple's items -/
theorem tup_foldG (h : TxG X n D) (hD : ∀ {x t H H'}, D x t H → Ext H H' → D x t H') (sb : L2.Sub X n A) {Q : (Array Str × Nat) → Shared → Prop} : ∀ (its : List Value) (xs : List V) (ts : List Str) (acc : Array Str) (m : Nat) (s : Shared) (H : Hp), Vals xs its → ts.length = xs.length → (∀ (i : Nat) x t, xs[i]? = some x → ts[i]? = some t → D x t H) →
    Inv X pins σ H s → m + piled ts ≤ sizeLine → (∀ H' s', Inv X pins σ H' s' → Ext H H' → Q ⟨acc ++ ts.toArray, m + piled ts⟩ s') → wpAny (model X.prog X.w) A (forIn its (⟨acc, m⟩ : (Array Str × Nat)) tupBody) Q X.xe s
  | [], xs, ts, acc, m, s, H, rv, hl, hd, I, hm, hq => by
    cases rv
    have ht : ts = [] := List.eq_nil_of_length_eq_zero (by simpa using hl)
    subst ht
    simp only [List.forIn_nil]
    exact wpAny_pure (by simpa [piled] using hq H s I Ext.rfl')
  | u :: its, x :: xs, [], acc, m, s, H, rv, hl, hd, I, hm, hq => by simp at hl
  | u :: its, x :: xs, t :: ts, acc, m, s, H, .cons ru rv, hl, hd, I, hm, hq => by
    rw [piled_cons] at hm
    rw [List.forIn_cons]
    refine wpAny_bind (wpAny_bind (wpAny_mono (h A pins s σ H x t u (m + 1) sb I ru (hd 0 x t rfl rfl) (by omega)) (fun r s2 q => ?_) fun _ _ z => z))
    obtain ⟨er, H2, I2, x2⟩ := q
    subst er
    refine wpAny_pure ?_
    refine tup_foldG h hD sb its xs ts (acc.push r) (m + (r.length + 2)) s2 H2 rv (by simpa using hl) (fun i x t h1 h2 => hD (hd (i + 1) x t (by simpa using h1) (by simpa using h2)) x2) I2 (by omega) fun H' s' I' x' => ?_
    have h1 := hq H' s' I' (x2.trans x')
    have e : m + piled (r :: ts) = m + (r.length + 2) + piled ts := by rw [piled_cons]; omega
    rw [e] at h1
    simpa using h1
theorem repr_tupG {Q : Value → Shared → Prop} (h : TxG X n D) (hD : ∀ {x t H H'}, D x t H → Ext H H' → D x t H') (sb : L2.Sub X (n + 1) A) (hg : A.guards = some []) (I : Inv X pins σ H0 s) (ha0 : H0 a = some (.tup xs)) (hlen : ts.length = xs.length) (hd : ∀ (i : Nat) x t, xs[i]? = some x → ts[i]? = some t → D x t H0)
    (hsz : (tupleText ts).length ≤ sizeLine) (hQ : ∀ H' s u, Inv X pins σ H' s → Ext H0 H' → Q (.str (tupleText ts) u) s) : wpAny (model X.prog X.w) A (call (.builtin "tuple.__repr__") [.ref a]) Q X.xe s := by
  obtain ⟨its, rv, ht, hz⟩ := I.tuple (SqT.of ha0)
  obtain ⟨o, ho, hc, m, hdt⟩ := ht
  have hTy : s.TypeIs (.ref a) "tuple" := ⟨o, ho, hc⟩
  have hp := piled_le_tupleText ts
  have hl : its.length = ts.length := by rw [hlen, rv.length]
  refine wpAny_call (codeAny_call_builtin_own (Code.quiet_builtin _ (by decide +kernel)) PySem.F.entry_tuple_repr (PySem.F.slot_tuple_repr.check _ _ _ _ _ _ _ _ hTy (PySem.F.args_tuple_repr_1 _) ?_))
  show wpOwn _ _ _ (Builtin.tupleReprAt 0 ⟨[.ref a], []⟩) _ _ _
  rw [tuple_repr_tree, tupleReprUnderWay_eq]
  refine wpOwn_bind (wpOwn_stackTailAny hg (tupGuardF_off _) (tupGuardF_pos _) ?_)
  show wpOwn _ _ _ (if false = true then _ else _) _ _ _
  rw [if_neg Bool.false_ne_true]
  refine wpOwn_of_wpAny ?_
  unfold tupleReprRest Builtin.Tuple.tupleItemsOf
  refine wpAny_bind (wpAny_bind (wpAny_seqItems ho hdt (wpAny_pure ?_)))
  rw [← Array.forIn_toList]
  refine wpAny_bind (tup_foldG h hD (trepr_sub sb _) _ xs ts _ _ s H0 (by simpa using rv) hlen hd I (by omega) fun H' s' I' x' => ?_)
  refine wpAny_bind (wpAny_mkStr (wpAny_pure ?_) (by simpa [tupleText, hl] using hsz))
  have h1 := hQ H' _ s'.toks (I'.tok (s'.toks + 1)) x'
  simpa [tupleText, hl] using h1
end
end RR
-- RPV
namespace RR
open PySem PySem.Spec PyProof.Rows L2 PySem.W Builtin
theorem fb_nd {M B : Nat} {q : Rat} (h : Fb M B q) (hM : 0 < M) : q.num.natAbs ≤ B ∧ q.den ≤ M := by
  obtain ⟨n, rfl, hn⟩ := h
  have hM0 : (M : Int) ≠ 0 := by omega
  refine ⟨?_, ?_⟩
  · rw [← rat_num n M hM0, fdiv_exact (comm_dvd_t _ _), Int.natAbs_ediv_of_dvd (comm_dvd_t _ _)]
    exact Nat.le_trans (Nat.div_le_self _ _) hn
  · have e : ((Rat.divInt n M).den : Int) ≤ M := by
      rw [← rat_den n M hM0, fdiv_exact (comm_dvd_b _ _)]
      have h1 : ((M : Int) / comm n M).natAbs ≤ (M : Int).natAbs := by
        rw [Int.natAbs_ediv_of_dvd (comm_dvd_b _ _)]
        exact Nat.div_le_self _ _
      omega
    omega
/-- the texts of a row's numbers -/
theorem texts_of {K : PySem.W.Frag} {H : Hp} : ∀ (xs : List V) (qs : List Rat), qs.length = xs.length → FL 6 30 qs → (∀ (i : Nat) (y : V), xs[i]? = some y → Num K (qs.getD i 0) y H) → ∃ ts : List Str, ts.length = xs.length ∧ (∀ t ∈ ts, t.length ≤ 200) ∧ ∀ (i : Nat) (x : V) (t : Str), xs[i]? = some x → ts[i]? = some t → DTx K x t H
  | [], qs, _, _, _ => ⟨[], rfl, (fun t h => nomatch h), fun i x t h => by simp at h⟩
  | x :: xs, [], hl, _, _ => by simp at hl
  | x :: xs, r :: qs, hl, hf, hn => by
    obtain ⟨ts, l, b, h⟩ := texts_of xs qs (by simpa using hl) (fun i => hf (i + 1)) fun i y e => hn (i + 1) y (by simpa using e)
    have h0 := hn 0 x rfl
    have f0 : Fb 6 30 r := hf 0
    obtain ⟨n1, n2⟩ := fb_nd f0 (by decide)
    obtain ⟨t, tl, td⟩ : ∃ t : Str, t.length ≤ 200 ∧ DTx K x t H := by
      rcases h0 with h0 | ⟨i, ei, er⟩
      · exact ⟨ratT r, ratT_len (by omega) (by omega), .inr ⟨r, h0, by omega, by omega, rfl⟩⟩
      · have er : r = (i : Rat) := er
        subst er
        rw [Rat.num_intCast] at n1
        exact ⟨_, Nat.le_trans (txt64 (i := i) (by omega)).1 (by decide), .inl ⟨i, ei, by omega, rfl⟩⟩
    refine ⟨t :: ts, by rw [List.length_cons, List.length_cons, l], fun y hy => ?_, fun i y z h1 h2 => ?_⟩
    · rcases List.mem_cons.mp hy with e | h
      · rw [e]; exact tl
      · exact b y h
    · cases i with
      | zero =>
        simp at h1 h2
        subst h1
        subst h2
        exact td
      | succ i => exact h i y z (by simpa using h1) (by simpa using h2)
def textOf (tup : Bool) (ts : List Str) : Str := if tup then tupleText ts else listText ts
theorem piled_le : ∀ {ts : List Str}, (∀ t ∈ ts, t.length ≤ 200) → piled ts ≤ 202 * ts.length
  | [], _ => Nat.le_refl _
  | t :: ts, h => by
    have h1 := h t (List.mem_cons_self ..)
    have h2 := piled_le (ts := ts) fun t ht => h t (List.mem_cons_of_mem _ ht)
    rw [piled_cons, List.length_cons]
    omega
theorem textOf_len {tup : Bool} {ts : List Str} (h : ∀ t ∈ ts, t.length ≤ 200) (hl : ts.length ≤ 100) : (textOf tup ts).length ≤ sizeLine := by
  have hp := piled_le h
  refine Nat.le_trans ?_ (small (n := 50000) (by decide))
  unfold textOf
  cases tup with
  | true =>
    show (tupleText ts).length ≤ 50000
    unfold tupleText
    rw [strLen_append, strLen_append]
    have e1 : ((("(" : String) : Str)).length = 1 := rfl
    have e3 : (((if ts.length == 1 then ",)" else ")" : String) : Str)).length ≤ 2 := by split <;> decide
    by_cases h0 : ts = []
    · subst h0
      have : (Str.join ", " []).length = 0 := rfl
      omega
    · have := join_length_add ts h0
      omega
  | false =>
    show (listText ts).length ≤ 50000
    cases ts with
    | nil => decide
    | cons t r =>
      have h1 := textFrom_length_pos r 1 (("[" : Str) ++ (if (0 : Nat) > 0 then ", " else "" : String) ++ t) (Nat.succ_pos 0)
      have e : ((("[" : Str) ++ (if (0 : Nat) > 0 then ", " else "" : String) ++ t)).length = 1 + t.length := by
        rw [strLen_append, strLen_append]; rfl
      have hX : (listText (t :: r)).length = (textFrom 0 "[" (t :: r)).length + 1 := by
        show (textFrom 0 "[" (t :: r) ++ "]").length = _
        rw [strLen_append]; rfl
      have hY : (textFrom 0 "[" (t :: r)).length = (textFrom 1 (("[" : Str) ++ (if (0 : Nat) > 0 then ", " else "" : String) ++ t) r).length := rfl
      rw [piled_cons] at hp
      omega
/-- a list or tuple whose items have these texts -/
def Shown (K : PySem.W.Frag) (g : Addr) (tup : Bool) (xs : List V) (ts : List Str) : Hp → Prop := fun H => (if tup then H g = some (.tup xs) else H g = some (.lst xs)) ∧ ∀ (i : Nat) x t, xs[i]? = some x → ts[i]? = some t → DTx K x t H
theorem Shown.ext {K : PySem.W.Frag} {g : Addr} {tup : Bool} {xs : List V} {ts : List Str} {H H' : Hp} (h : Shown K g tup xs ts H) (e : Ext H H') : Shown K g tup xs ts H' := by
  refine ⟨?_, fun i x t h1 h2 => dtx_mon (h.2 i x t h1 h2) e⟩
  have h1 := h.1
  cases tup with
  | true => exact e _ _ h1
  | false => exact e _ _ h1
section
variable {X : Cx} {pa : Option Addr} {σ : L2.St} {H : Hp} {a : Expr} {pos p : Pos} {k : Nat} {g : Addr} {tup : Bool} {xs : List V} {ts : List Str}
theorem cr_repr (T : Txt X.K X.mg) (hr : Room 5 X.A) (hg : X.A.guards = some []) (hl : ts.length = xs.length) (hs : (textOf tup ts).length ≤ sizeLine) : CallR X (.builtin "repr") (fun vs H Q => vs = [.ref g] ∧ Shown X.K g tup xs ts H ∧ ∀ H', Ext H H' → Q (.str (textOf tup ts)) H') := by
  intro pins s σ H vs us Q I r ⟨e, ⟨hsh, hd⟩, q⟩
  subst e
  rw [Vals.ref1 r]
  have sb : L2.Sub X 3 X.A.in1 := ⟨(hr.mono (show 4 ≤ 5 by decide)).in1, rfl⟩
  have hu : X.A.units + 1 < cLine := by have := hr.un; omega
  cases tup with
  | true =>
    obtain ⟨its, rv, ht, hz⟩ := I.tuple (SqT.of hsh)
    obtain ⟨o, ho, hc, m, hdt⟩ := ht
    refine call_repr_slot hu ⟨o, ho, hc⟩ PySem.F.slot_tuple_repr (repr_tupG (txG X T) (fun h e => dtx_mon h e) sb hg I hsh hl hd hs fun H' s' u I' x => ⟨_, u, rfl, .str _, H', I', ⟨u, rfl⟩, q H' x⟩)
  | false =>
    obtain ⟨_, its, na, rv, hl', ea⟩ := I.lstM hsh
    refine call_repr_slot hu ⟨_, ea, rfl⟩ PySem.F.slot_list_repr.toG (repr_listG (txG X T) (fun h e => dtx_mon h e) sb hg I hsh hl hd hs fun H' s' u I' x => ⟨_, u, rfl, .str _, H', I', ⟨u, rfl⟩, q H' x⟩)
/-- repr(e) -/
theorem ev_repr (T : Txt X.K X.mg) (hr : Room k X.A) (hk : 5 ≤ k) (hgd : X.A.guards = some []) (hl : ts.length = xs.length) (hs : (textOf tup ts).length ≤ sizeLine) (ha : Ev pa X a σ H (Is (.ref g))) (hsh : ∀ H', Kp pa H H' → Shown X.K g tup xs ts H') (hg : Gl X "repr" := by rfl) (he : starEach [a] X.env = (false, eval a X.env) :: starEach [] X.env := by rfl) (hpl : (backTo pos (starEach [] X.env)).any (·.1) = false := by rfl) :
    Ev pa X (.Call (.Name "repr" p) [a] [] pos) σ H (Is (.str (textOf tup ts))) :=
  ev_blt1 (cr_repr T (hr.mono hk) hgd hl hs) (by decide +kernel) T.n_repr (ea1 ha he) (fun vs H1 Q k ⟨v, r, e, p, er⟩ q => by
    obtain rfl : r = [] := er
    exact ⟨by rw [e, show v = _ from p], hsh H1 k, fun H' x => q _ H' (Kp.ofE x) rfl⟩) hg (by decide) (by decide) he hpl
end
end RR
-- RPG
namespace RR
open PySem PySem.Spec PyProof.Rows L2
/-- a def that is called where no text of a list is under way -/
structure FnOkG (P : Program) (w : World) (K : PySem.W.Frag) (mg : Str → Option Value) (base : Heap) (k : Nat) (f : Addr) (fd : FuncData) (ps : List Str) (sp : Sp) : Prop where
  len : ∀ vs H Q E, sp vs H Q E → vs.length = ps.length
  run : ∀ (A : Around) (outer : List Env) (s : Shared) (H : Hp) (args : Args) (us : List Value) (vs : List V) (Q : VK) (E : XK), Room k A → A.guards = some [] → Env0 P w K mg base A outer s H → BindsTo s fd args (ps.zip us) → Vals vs us → sp vs H Q E →
    codeAny (model P w) A (.call (.ref f) args) (CR CX0 outer P w H s Q E) s
theorem deeper_guards (A : Around) (env : Env) : (A.deeper env).guards = A.guards := by
  first | rfl | simp [Around.deeper]
theorem fn_ofG {P : Program} {w : World} {K : PySem.W.Frag} {mg : Str → Option Value} {base : Heap} {k : Nat} {d : DR} {fd : FuncData} {N ps : List Str} {sp : Sp} (F : FunD K d.name d.qual d.params d.body d.scope d.dvs [] (d.adr K) fd) (S : FnScope N ps d.scope) (len : ∀ vs H Q E, sp vs H Q E → vs.length = ps.length)
    (hbody : ∀ (cdv : Value) (A : Around) (outer : List Env) (s : Shared) (H : Hp) (vs : List V) (Q : VK) (E : XK), Room k (A.deeper (envOfC d.qual d.scope s.heap.objs.size (d.adr K) cdv)) → A.guards = some [] → sp vs H Q E →
      Ss (bodyX P w K mg base N d cdv A outer s H E) d.body (start N vs) H { nx := fun _ H' => Q .non H', rt := Q }) :
    FnOkG P w K mg base (k + 1) (d.adr K) fd ps sp := by
  obtain ⟨oc, od, dV, kV, doc, pm, an, cdv, ct, osl, rfl, lk, hcd, _, _⟩ := F.ex
  refine ⟨len, fun A outer s H args us vs Q E hr hgd e0 hb r hsp => ?_⟩
  have hl := len _ _ _ _ hsp
  have KX : K.In s.heap := e0.mod.kin.keeps fun b o e => (e0.bs b o e).1
  have lim : s.heap.NoLimit := e0.mod.nolimit.keeps fun b o e => (e0.bs b o e).1
  have hkind : ∀ y ∈ ps.zip us, d.scope.names.lookup y.1 = some .local ∨ (d.scope.names.lookup y.1 = some .cell ∧ ((cellsFrom (s.heap.objs.size + 1) d.scope.names []).lookup y.1).isSome = true) := fun ⟨n, v⟩ hy => by
    rcases S.par n (List.of_mem_zip hy).1 with q | q
    · exact .inl q
    · exact .inr ⟨q, PySem.W.cellsFrom_some _ _ _ (.inl q)⟩
  refine codeAny_call_function hr.depth (KX _ _ lk) rfl S.co S.gen rfl (PySem.W.codeRec_of KX hcd) (hb _ _ _ _ ?_)
  refine wpAny_newFunctionEnv_cells S.kind hkind fun env he s1 x => ?_
  subst he
  refine ⟨lim.keeps x.toInCall.keep, codeAny_func ?_⟩
  have hq := hbody cdv A outer s H vs Q E (hr.deeper _) hgd hsp
  have ht : PSs (cxOf CX0 P w K mg base N d.qual d.scope (d.adr K) cdv A outer s H E) d.body (fun D σ H' => Ss (bodyX P w K mg base N d cdv A outer s H E) d.body σ H' D) := PSs.nox Ss.pss
  have I : Inv (cxOf CX0 P w K mg base N d.qual d.scope (d.adr K) cdv A outer s H E) [] (start N vs) H s1 := inv_start S hr.hd e0 hl r x
  refine wpAny_mono (ht.run [] s1 (start N vs) H _ I hq) (fun fl s' hs => ?_) fun e s' hs => hs
  have fin : ∀ {σ' : L2.St} {H' : Hp} {v : V} {u : Value}, Inv (cxOf CX0 P w K mg base N d.qual d.scope (d.adr K) cdv A outer s H E) [] σ' H' s' → RelV v u → Q v H' → CE outer P w H s Q u s' :=
    fun {σ' H' v u} J rv q => ⟨v, H', J.os, J.bare, J.base, J.hok, rv, q⟩
  cases fl with
  | ret u =>
    obtain ⟨v, σ', H', J, rv, q⟩ := hs
    exact fin J rv q
  | next =>
    obtain ⟨σ', H', J, q⟩ := hs
    exact fin (v := V.non) (u := Value.none) J rfl q
  | brk =>
    obtain ⟨_, _, _, q⟩ := hs
    exact False.elim q
  | cont =>
    obtain ⟨_, _, _, q⟩ := hs
    exact False.elim q
/-- .. by its name -/
structure CalG (P : Program) (w : World) (K : PySem.W.Frag) (mg : Str → Option Value) (base : Heap) (x : Str) (k : Nat) (sp : Sp) : Prop where
  ex : ∃ f fd ps, FnOkG P w K mg base k f fd ps sp ∧ mg x = some (.ref f) ∧ PySem.W.keepIn K (.ref f) = true ∧ Binds K fd ps []
section
variable {X : Cx} {pa : Option Addr} {σ : L2.St} {H : Hp} {e : Expr} {es : List Expr} {P : V → Hp → Prop} {R : List V → Hp → Prop} {x : Str} {k j : Nat} {p pos : Pos}
theorem pe_callG {sp : Sp} (c : CalG X.prog X.w X.K X.mg X.base x k sp) (hr : Room j X.A) (hk : k ≤ j) (hgd : X.A.guards = some []) (ha : EvA pa X (e :: es) σ H R) (hg : Gl X x := by rfl) (hdb : (x == ("__debug__" : Str)) = false := by decide)
    (he : starEach (e :: es) X.env = (false, eval e X.env) :: starEach es X.env := by rfl) (hpl : (backTo pos (starEach es X.env)).any (·.1) = false := by rfl) : PE X (.Call (.Name x p) (e :: es) [] pos) (tCall sp [] E0 (tA pa σ H R)) := by
  obtain ⟨f, fd, ps, F, g, kp, b⟩ := c.ex
  refine ⟨fun pins s σ H Q I h => ?_⟩
  refine wpAny_Call_Name_kw (ld_glob I hg g ?_ hdb)
  refine PySem.W.callWith_K (h₀ := X.base) I.ok.mod.kin kp (thn (ha.run pos pins s σ H _ I h) fun us s1 ⟨vs, H1, I1, r, q⟩ => ⟨I1.kIn, ?_⟩) he hpl
  have q0 : sp (vs ++ []) H1 Q E0 := q
  have q' : sp vs H1 Q E0 := by rw [List.append_nil] at q0; exact q0
  have hl := F.len _ _ _ _ q'
  refine wpAny_call (codeAny_mono (F.run X.A X.stack s1 H1 ⟨us, []⟩ us vs Q E0 (hr.mono hk) hgd I1.env0 (by
    have := b s1 us I1.kIn (by rw [List.append_nil, ← r.length]; exact hl)
    rw [List.append_nil] at this
    exact this) r q') fun r s' hq => ?_)
  cases r with
  | error e => exact pass0 pins σ H1 s1 e s' I1 hq
  | ok fl =>
    cases fl with
    | ret u => exact I1.after hq
    | next => exact False.elim hq
    | brk => exact False.elim hq
    | cont => exact False.elim hq
theorem ev_callG {sp : Sp} (c : CalG X.prog X.w X.K X.mg X.base x k sp) (hr : Room j X.A) (hk : k ≤ j) (hgd : X.A.guards = some []) (ha : EvA pa X (e :: es) σ H R)
    (h : ∀ vs H1 Q, Kp pa H H1 → R vs H1 → (∀ v H2, Kp pa H1 H2 → P v H2 → Q v H2) → sp vs H1 Q E0) (hg : Gl X x := by rfl) (hdb : (x == ("__debug__" : Str)) = false := by decide)
    (he : starEach (e :: es) X.env = (false, eval e X.env) :: starEach es X.env := by rfl) (hpl : (backTo pos (starEach es X.env)).any (·.1) = false := by rfl) : Ev pa X (.Call (.Name x p) (e :: es) [] pos) σ H P := by
  have hpe : PE X (.Call (.Name x p) (e :: es) [] pos) (tCall sp [] E0 (tA pa σ H R)) := pe_callG c hr hk hgd ha hg hdb he hpl
  exact Ev.of hpe fun H1 Q k q => ⟨rfl, k, fun vs H2 k2 r => by
    show sp (vs ++ []) H2 Q E0
    rw [List.append_nil]
    exact h vs H2 Q (k.trans k2) r fun v H3 k3 p => q v H3 (k2.trans k3) p⟩
end
end RR
-- RPK
namespace RR
open PySem PySem.Spec PyProof.Rows L2
/-- a def, and what it promises, of one datum -/
def CalF (P : Program) (w : World) (K : PySem.W.Frag) (mg : Str → Option Value) (base : Heap) (d : DR) (k : Nat) (sp : Sp) (ps : List Str) : Prop := ∃ fd, FunD K d.name d.qual d.params d.body d.scope d.dvs [] (d.adr K) fd ∧ FnOk P w K mg base CX0 k (d.adr K) fd ps sp
theorem funD_kb {K : PySem.W.Frag} {x qual : Str} {params : Arguments} {body : List Stmt} {scope : Scope} {f : Addr} {fd : FuncData} {ps : List Str} (F : FunD K x qual params body scope [] [] f fd) (ks : List Str) (g : {α : Type} → List α → List α) (hrel : ∀ {zs : List V} {ws : List Value}, Vals zs ws → Vals (g zs) (g ws))
    (h : ∀ (kV doc pm : Value) (an : Option Addr) (cdv ct : Value) (ws : List Value), ws.length = ks.length → bindArgs (PySem.W.fnOf x qual params body scope .none kV doc pm an cdv ct) ⟨[], ks.zip ws⟩ = pure (ps.zip (g ws))) : KBn K fd ps 0 ks (fun _ ws => g ws) (fun _ zs => g zs) := by
  obtain ⟨oc, od, dV, kV, doc, pm, an, cdv, ct, osl, rfl, lk, hcd, hD, hK⟩ := F.ex
  rcases hD with ⟨_, rfl⟩ | ⟨e, _⟩
  · refine ⟨fun s us ws X l1 l2 => ?_, fun _ r => hrel r⟩
    have : us = [] := List.eq_nil_of_length_eq_zero l1
    subst this
    exact .of_eq (h kV doc pm an cdv ct ws l2)
  · exact absurd rfl e
/-- keywords' values -/
abbrev EvK (pa : Option Addr) (X : Cx) (kws : List Keyword) (σ : L2.St) (H : Hp) (R : List V → Hp → Prop) : Prop := PK X kws (tA pa σ H R)
section
variable {X : Cx} {pa : Option Addr} {σ : L2.St} {H : Hp} {e : Expr} {kws : List Keyword} {P : V → Hp → Prop} {R : List V → Hp → Prop} {x : Str} {k j : Nat} {p pos kpos : Pos} {nm : Option Str}
theorem EvK.of {te : TA} (h : PK X kws te) (r : ∀ H1 Q, Kp pa H H1 → (∀ v H2, Kp pa H1 H2 → R v H2 → Q v H2) → te σ H1 Q) : EvK pa X kws σ H R :=
  ⟨fun pos pins s σ' H1 Q I ⟨e, k, q⟩ => by subst e; exact h.run pos pins s σ' H1 Q I (r H1 Q k q)⟩
theorem evk0 : EvK pa X [] σ H AN := EvK.of pk_nil fun H1 Q k q => q _ H1 (Kp.refl _) rfl
theorem evk (ha : Ev pa X e σ H P) (hr : EvK pa X kws σ H R) [S : Stb pa P] : EvK pa X (⟨nm, e, kpos⟩ :: kws) σ H (AC P R) :=
  EvK.of (pk_cons ha hr) fun H1 Q k q => ⟨rfl, k, fun v H2 k2 pv => ⟨rfl, k.trans k2, fun r H3 k3 pr => q _ H3 (k2.trans k3) ⟨v, r, rfl, S.st v H2 H3 k3 pv, pr⟩⟩⟩
theorem ev_callK0 {d : DR} {sp : Sp} {ps ks : List Str} {g : List Value → List Value → List Value} {gV : List V → List V → List V} (C : CalF X.prog X.w X.K X.mg X.base d k sp ps) (hm : X.mg x = some (.ref (d.adr X.K))) (hb : ∀ fd, FunD X.K d.name d.qual d.params d.body d.scope d.dvs [] (d.adr X.K) fd → KBn X.K fd ps 0 ks g gV) (hr : Room j X.A) (hk : k ≤ j) (hkw : EvK pa X kws σ H R)
    (h : ∀ zs H1 Q, Kp pa H H1 → R zs H1 → (∀ v H2, Kp pa H1 H2 → P v H2 → Q v H2) → zs.length = ks.length ∧ sp (gV [] zs) H1 Q E0) (hg : Gl X x := by rfl)
    (hall : (backToKw pos (keywordEach kws X.env)).all (·.1.isSome) = true := by rfl) (hks : (backToKw pos (keywordEach kws X.env)).filterMap (·.1) = ks := by rfl) (hdb : (x == ("__debug__" : Str)) = false := by decide)
    (hpl : ((backTo pos (starEach [] X.env)).any (·.1) || (backToKw pos (keywordEach kws X.env)).any (·.1.isNone)) = false := by rfl) : Ev pa X (.Call (.Name x p) [] kws pos) σ H P := by
  obtain ⟨fd, FD, F⟩ := C
  have hB := hb fd FD
  have hpe : PE X (.Call (.Name x p) [] kws pos) (fun σ' H1 Q => tA pa σ H R σ' H1 fun zs H2 => zs.length = ks.length ∧ sp (gV [] zs) H2 Q E0) := by
    refine ⟨fun pins s σ H Q I h => ?_⟩
    refine wpAny_Call_Name_kw (ld_glob I hg hm ?_ hdb)
    refine PySem.W.callWith_KW0 (h₀ := X.base) I.ok.mod.kin FD.kp hall ?_ hpl
    refine thn (hkw.run pos pins s σ H _ I h) fun ws s2 ⟨zs, H2, I2, rz, l2, q2⟩ => ⟨I2.kIn, ?_⟩
    rw [hks]
    exact run_fnN (us := []) (vs := []) F (hr.mono hk) hB pass0 I2 .nil rz rfl l2 q2
  exact Ev.of hpe fun H1 Q k q => ⟨rfl, k, fun zs H2 k2 r => h zs H2 Q (k.trans k2) r fun v H3 k3 p => q v H3 (k2.trans k3) p⟩
end
section
variable {P : Program} {w : World} {K : PySem.W.Frag} {mg : Str → Option Value} {base : Heap}
theorem def2F {d : DR} {N : List Str} {k : Nat} {S : V → V → Hp → PoT → Prop} (D : DefIn K d) (p0 p1 : Str)
    (hb : ∀ (cdv : Value) (A : Around) (outer : List Env) (s : Shared) (E : XK) (H : Hp) (a b : V) (Po : PoT) (Q : VK), Room k (A.deeper (envOfC d.qual d.scope s.heap.objs.size (d.adr K) cdv)) → N.Nodup → S a b H Po → (∀ v H', Kp none H H' → Po v H' → Q v H') →
      Ss (bodyX P w K mg base N d cdv A outer s H E) d.body (start N [a, b]) H { nx := fun _ H' => Q .non H', rt := Q })
    (sc : FnScope N [p0, p1] d.scope := by exact ⟨rfl, rfl, rfl, by decide +kernel, rfl, by decide +kernel, by decide +kernel⟩) : CalF P w K mg base d (k + 1) (spN (P2 S)) [p0, p1] := by
  obtain ⟨fd, F⟩ := D
  refine ⟨fd, F, fn_def F sc (fun vs H Q E ⟨Po, ⟨a, b, e, _⟩, _⟩ => by rw [e]; rfl) (fun cdv A outer s H vs Q E hr ⟨Po, ⟨a, b, e, h⟩, q⟩ => ?_)⟩
  subst e
  exact hb cdv A outer s E H a b Po Q hr sc.nd h q
theorem def3F {d : DR} {N : List Str} {k : Nat} {S : V → V → V → Hp → PoT → Prop} (D : DefIn K d) (p0 p1 p2 : Str)
    (hb : ∀ (cdv : Value) (A : Around) (outer : List Env) (s : Shared) (E : XK) (H : Hp) (a b c : V) (Po : PoT) (Q : VK), Room k (A.deeper (envOfC d.qual d.scope s.heap.objs.size (d.adr K) cdv)) → N.Nodup → S a b c H Po → (∀ v H', Kp none H H' → Po v H' → Q v H') →
      Ss (bodyX P w K mg base N d cdv A outer s H E) d.body (start N [a, b, c]) H { nx := fun _ H' => Q .non H', rt := Q })
    (sc : FnScope N [p0, p1, p2] d.scope := by exact ⟨rfl, rfl, rfl, by decide +kernel, rfl, by decide +kernel, by decide +kernel⟩) : CalF P w K mg base d (k + 1) (spN (P3 S)) [p0, p1, p2] := by
  obtain ⟨fd, F⟩ := D
  refine ⟨fd, F, fn_def F sc (fun vs H Q E ⟨Po, ⟨a, b, c, e, _⟩, _⟩ => by rw [e]; rfl) (fun cdv A outer s H vs Q E hr ⟨Po, ⟨a, b, c, e, h⟩, q⟩ => ?_)⟩
  subst e
  exact hb cdv A outer s E H a b c Po Q hr sc.nd h q
end
end RR
-- RPM
namespace RR
open PySem PySem.Spec PyProof.Rows L2
section
variable {P : Program} {w : World} {K : PySem.W.Frag} {mg : Str → Option Value} {base : Heap}
theorem f_taken_off (T : Txt K mg) : CalF P w K mg base d_Ftaken_off 8 (spN (P2 fun u v H Po => ∃ D a, IsRoot K D u H ∧ NLT K a v H ∧ TakOk D (trim a) ∧ a.length ≤ 31 ∧ Po = TkPo K H (takenF D (trim a)))) ["root", "poly"] := by
  refine def2F (N := ["root", "poly"]) T.f_Ftaken_off "root" "poly" fun cdv A outer s E H u v Po Q hr nd ⟨D, a, hu, hv, ok, la, hPo⟩ hQ => ?_
  subst hPo
  refine ss_expr (pa := none) (P := fun _ _ => True) (ev_c1 (c_want_root T) hr (by decide) (ev_n 0 hu) fun x H1 _ hx => ⟨_, ⟨D, hx, rfl⟩, fun _ _ _ _ => trivial⟩) fun _ H1 k1 _ => ?_
  have hv1 : NLT K a v H1 := Stb.st (pa := none) _ _ _ k1 hv
  have hu1 : IsRoot K D u H1 := Stb.st (pa := none) _ _ _ k1 hu
  refine ss_ret (pa := none) (P := TkPo K H (takenF D (trim a))) (ev_c2 (Pb := NL H1 (RVs K (trim a))) (c_taken_by T) hr (by decide) (ev_n 0 hu1) (ev_c1 (c_want_short T) hr (by decide) (ev_n 1 hv1) fun x H2 k2 hx => ⟨_, ⟨a, hx, la, rfl⟩, fun v H3 _ h => h.back k2⟩) fun x y H2 k2 hx hy => ⟨_, ⟨D, trim a, hx, hy.rl, ok, rfl⟩, fun v H3 _ ⟨t, x, y, e, ht, h1, h2⟩ => ⟨t, x, y, e, ht, h1.back (k1.trans k2), h2.back (k1.trans k2)⟩⟩) fun v' H' k h => hQ v' H' (k1.trans k) h
theorem f_summed_up (T : Txt K mg) : CalF P w K mg base d_Fsummed_up 8 (spN (P3 fun u v z H Po => ∃ D a b, IsRoot K D u H ∧ NLT K a v H ∧ NLT K b z H ∧ SumOk D (trim a) ∧ SzL b ∧ a.length ≤ 31 ∧ b.length ≤ 31 ∧ Po = NL H (RVs K (sumP (sumdF D (trim a) (trim a).length) (trim b))))) ["root", "first", "second"] := by
  refine def3F (N := ["root", "first", "second", "near", "far"]) T.f_Fsummed_up "root" "first" "second" fun cdv A outer s E H u v z Po Q hr nd ⟨D, a, b, hu, hv, hz, ok, sb, la, lb, hPo⟩ hQ => ?_
  subst hPo
  obtain ⟨tk, i30⟩ := T.i_MOST_DEGREE
  refine ss_expr (pa := none) (P := fun _ _ => True) (ev_c1 (c_want_root T) hr (by decide) (ev_n 0 hu) fun x H1 _ hx => ⟨_, ⟨D, hx, rfl⟩, fun _ _ _ _ => trivial⟩) fun _ H1 k1 _ => ?_
  have hv1 : NLT K a v H1 := Stb.st (pa := none) _ _ _ k1 hv
  have hz1 : NLT K b z H1 := Stb.st (pa := none) _ _ _ k1 hz
  refine ss_par (pa := none) (Pa := NL H (RVs K (trim a))) (Pb := NL H (RVs K (trim b))) 3 4 (eva2 (ev_c1 (c_want_poly T) hr (by decide) (ev_n 1 hv1) fun x H2 k2 hx => ⟨_, ⟨a, hx, by omega, rfl⟩, fun v H3 _ h => h.back (k1.trans k2)⟩) (ev_c1 (c_want_poly T) hr (by decide) (ev_n 2 hz1) fun x H2 k2 hx => ⟨_, ⟨b, hx, by omega, rfl⟩, fun v H3 _ h => h.back (k1.trans k2)⟩)) fun x y H2 k2 hx hy => ?_
  have h1 := trim_le a
  have h2 := trim_le b
  refine ss_expr (pa := none) (P := fun _ _ => True) (ev_c3 (Pa := fun _ _ => True) (A := ⟨fun _ _ _ _ _ => trivial⟩) (Pc := Is (.int (max ((trim a).length : Int) (trim b).length - 1))) (c_want_at_most T) hr (by decide) (ev_str.imp fun _ _ _ _ => trivial) (ev_glob (v := .int 30) i30 ⟨_, rfl⟩) (ev_sub (ev_max T.n_max (ev_lenR T.n_len (ev_n 3 hx.rl)) (ev_lenR T.n_len (ev_n 4 hy.rl))) ev_int)
    fun x y z H2 k2 _ ey ez => ⟨_, ⟨30, _, ey, ez, by omega, rfl⟩, fun _ _ _ _ => trivial⟩) fun _ H3 k3 _ => ?_
  have k13 := (k1.trans k2).trans k3
  have hx3 : NL H (RVs K (trim a)) x H3 := Stb.st (pa := none) _ _ _ k3 hx
  have hy3 : NL H (RVs K (trim b)) y H3 := Stb.st (pa := none) _ _ _ k3 hy
  have hu3 : IsRoot K D u H3 := Stb.st (pa := none) _ _ _ k13 hu
  exact ss_ret (pa := none) (P := NL H (RVs K (sumP (sumdF D (trim a) (trim a).length) (trim b)))) (ev_c2 (Pa := NL H3 (RVs K (sumdF D (trim a) (trim a).length))) (c_sum_of T) hr (by decide) (ev_c2 (c_summed T) hr (by decide) (ev_n 0 hu3) (ev_n 3 hx3.rl) fun x y H4 k4 hx hy => ⟨_, ⟨D, trim a, hx, hy, ok, rfl⟩, fun v H5 _ h => h.back k4⟩) (ev_n 4 hy3.rl)
    fun x y H4 k4 hx hy => ⟨_, ⟨_, _, hx.rl, hy, (ok.sm _ (Nat.le_refl _)).1, szl_trim sb, by have := (ok.sm _ (Nat.le_refl _)).2; omega, by omega, rfl⟩, fun v H5 _ h => h.back (k13.trans k4)⟩) fun v' H' k h => hQ v' H' (k13.trans k) h
/-- [poly, root] into the parameters' order -/
def swp : {α : Type} → List α → List α := fun l => match l with
  | [a, b] => [b, a]
  | l => l
/-- [second, root, first] into the parameters' order -/
def rot3 : {α : Type} → List α → List α := fun l => match l with
  | [a, b, c] => [b, c, a]
  | l => l
theorem kb_taken {fd : FuncData} (F : FunD K d_Ftaken_off.name d_Ftaken_off.qual d_Ftaken_off.params d_Ftaken_off.body d_Ftaken_off.scope d_Ftaken_off.dvs [] (d_Ftaken_off.adr K) fd) : KBn K fd ["root", "poly"] 0 ["poly", "root"] (fun _ ws => swp ws) (fun _ zs => swp zs) :=
  funD_kb F ["poly", "root"] swp (fun r => match r with
    | .nil => .nil
    | .cons a .nil => .cons a .nil
    | .cons a (.cons b .nil) => .cons b (.cons a .nil)
    | .cons a (.cons b (.cons c r)) => .cons a (.cons b (.cons c r))) fun _ _ _ _ _ _ ws hl => match ws, hl with | [_, _], _ => rfl
theorem kb_summed {fd : FuncData} (F : FunD K d_Fsummed_up.name d_Fsummed_up.qual d_Fsummed_up.params d_Fsummed_up.body d_Fsummed_up.scope d_Fsummed_up.dvs [] (d_Fsummed_up.adr K) fd) : KBn K fd ["root", "first", "second"] 0 ["second", "root", "first"] (fun _ ws => rot3 ws) (fun _ zs => rot3 zs) :=
  funD_kb F ["second", "root", "first"] rot3 (fun r => match r with
    | .nil => .nil
    | .cons a .nil => .cons a .nil
    | .cons a (.cons b .nil) => .cons a (.cons b .nil)
    | .cons a (.cons b (.cons c .nil)) => .cons b (.cons c (.cons a .nil))
    | .cons a (.cons b (.cons c (.cons d r))) => .cons a (.cons b (.cons c (.cons d r)))) fun _ _ _ _ _ _ ws hl => match ws, hl with | [_, _, _], _ => rfl
end
end RR
-- RPO
namespace RR
open PySem PySem.Spec PyProof.Rows L2
theorem fl_app0 {M B : Nat} {P : List Rat} (h : FL M B P) : FL M B (P ++ [0]) := fun i => by
  by_cases hi : i < P.length
  · rw [app_getD hi]; exact h i
  · by_cases e : i = P.length
    · rw [e, app_getD']; exact Fb.zero
    · rw [getD_ge (by rw [List.length_append, List.length_singleton]; omega)]; exact Fb.zero
theorem Shown.kp {K : PySem.W.Frag} {g z : Addr} {tup : Bool} {xs : List V} {ts : List Str} {H H' : Hp} (h : Shown K g tup xs ts H) (hne : g ≠ z) (k : Kp (some z) H H') : Shown K g tup xs ts H' := by
  have hz : (some z : Option Addr) ≠ some g := fun e => hne (Option.some.inj e).symm
  refine ⟨?_, fun i x t h1 h2 => (h.2 i x t h1 h2).imp id fun ⟨q, a, b⟩ => ⟨q, a.kp k, b⟩⟩
  have h1 := h.1
  cases tup with
  | true => exact k.ne h1 hz
  | false => exact k.ne h1 hz
theorem nlt_kp {K : PySem.W.Frag} {g z : Addr} {xs : List V} {qs : List Rat} {H H' : Hp} (hg : H g = some (.lst xs) ∨ H g = some (.tup xs)) (hn : NVs K qs xs H) (hne : g ≠ z) (k : Kp (some z) H H') : NLT K qs (.ref g) H' := by
  have hz : (some z : Option Addr) ≠ some g := fun e => hne (Option.some.inj e).symm
  exact ⟨xs, ⟨g, rfl, hg.imp (fun h => k.ne h hz) fun h => k.ne h hz⟩, StbA.st _ _ _ k hn⟩
theorem TkPo.rp {K : PySem.W.Frag} {H0 H : Hp} {r : List Rat × List Rat} {v : V} (h : TkPo K H0 r v H) : RP K (RR.trim r.1, r.2) v H := by
  obtain ⟨t, x, y, e, ht, h1, h2⟩ := h
  exact ⟨t, x, y, e, ht, h1.rl, h2.rl⟩
section
variable {X : Cx} {pa : Option Addr} {σ : L2.St} {H : Hp} {a b : Expr} {pos : Pos} {y : Str}
theorem ev_eqStr (ha : Ev pa X a σ H (Is (.str y))) (hb : Ev pa X b σ H (Is (.str y))) : Ev pa X (.Compare a [.Eq] [b] pos) σ H (Is (.bl true)) :=
  ev_cmp op_eq (nomark _) ha hb fun x z H2 Q _ px pz q => by
    obtain rfl : x = .str y := px
    obtain rfl : z = .str y := pz
    refine ⟨rfl, ?_⟩
    rw [decide_eq_true rfl]
    exact q _ H2 (Kp.refl _) rfl
end
theorem takenF_len {D P : List Rat} : (takenF D P).1.length = P.length + 1 - nD D := by
  unfold takenF
  rw [lawF_len, List.length_replicate]
  rfl
theorem szl_app0 {a : List Rat} (h : SzL a) : SzL (a ++ [0]) := fun i => by
  by_cases hi : i < a.length
  · rw [app_getD hi]; exact h i
  · by_cases e : i = a.length
    · rw [e, app_getD']; exact Sz.zero
    · rw [getD_ge (by rw [List.length_append, List.length_singleton]; omega)]; exact Sz.zero
theorem up_len8 {D S : List Rat} (d : DOk D) (hS : S.length ≤ 8) : (upL D S).length ≤ 40 := by
  obtain ⟨h3, h9⟩ := d.len
  unfold upL
  have a1 := prodR_len (trim (slopeP S)) D
  have a2 := prodR_len S (trim (slopeP D))
  have a3 : (trim (slopeP S)).length ≤ 8 := Nat.le_trans (trim_le _) (by unfold slopeP; rw [mk_len]; omega)
  have a4 : (trim (slopeP D)).length ≤ 8 := Nat.le_trans (trim_le _) (by unfold slopeP; rw [mk_len]; omega)
  have a5 : (byP (prodR S (trim (slopeP D))) (half2 1)).length ≤ (prodR S (trim (slopeP D))).length := Nat.le_trans (trim_le _) (by rw [mk_len]; exact Nat.le_refl _)
  exact sumP_len (by omega) (by omega)
theorem up_bd {D S : List Rat} {e : Nat} (d : DOk D) (h : Bd e S) (he : e ≤ 1900) (lS : S.length ≤ 20) : UpOk D S ∧ Bd (e + 40) (upL D S) := by
  obtain ⟨M, B, b0, b1, b2, b3⟩ := h
  have p2 : (2 : Nat) ^ e ≤ 2 ^ 2000 := Nat.pow_le_pow_right (by decide) (by omega)
  obtain ⟨uo, ufl⟩ := upOk_of d b0 (Nat.lt_of_lt_of_le b1 p2) (Nat.lt_of_lt_of_le b2 p2) b3 lS
  refine ⟨uo, _, _, by omega, ?_, ?_, ufl⟩
  · rw [Nat.pow_add]
    refine Nat.lt_of_lt_of_le (show M * 1 * 2 < 2 ^ e * 2 by omega) (Nat.mul_le_mul_left _ (by decide))
  · rw [Nat.pow_add]
    refine Nat.lt_of_lt_of_le (Nat.mul_lt_mul_of_pos_right b2 (by decide)) (Nat.mul_le_mul_left _ (by decide))
/-- what is passed, where a pot is drawn from -/
def GvZ (K : PySem.W.Frag) (z : Addr) (P : List Rat) : V → Hp → Prop := fun v H => ∃ g xs qs, v = .ref g ∧ g ≠ z ∧ (H g = some (.lst xs) ∨ H g = some (.tup xs)) ∧ NVs K qs xs H ∧ (qs = P ∨ qs = P ++ [0])
instance {K : PySem.W.Frag} {z : Addr} {P : List Rat} : Stb (some z) (GvZ K z P) := ⟨fun v H1 H2 k ⟨g, xs, qs, e, n, h, r, q⟩ => by
  have hz : (some z : Option Addr) ≠ some g := fun e => n (Option.some.inj e).symm
  exact ⟨g, xs, qs, e, n, h.imp (fun h => k.ne h hz) fun h => k.ne h hz, StbA.st _ _ _ k r, q⟩⟩
theorem GvZ.nlt {K : PySem.W.Frag} {z : Addr} {P : List Rat} {v : V} {H : Hp} (h : GvZ K z P v H) : ∃ qs, NLT K qs v H ∧ (qs = P ∨ qs = P ++ [0]) := by
  obtain ⟨g, xs, qs, e, _, hg, n, hq⟩ := h
  exact ⟨qs, ⟨xs, ⟨g, e, hg⟩, n⟩, hq⟩
theorem GvP.z {K : PySem.W.Frag} {z : Addr} {P : List Rat} {v : V} {H0 H : Hp} (h : GvP K P H0 v H) (hp : PotOk (some z) H0) : GvZ K z P v H := by
  obtain ⟨g, xs, qs, e, hg0, hg, n, hq⟩ := h
  exact ⟨g, xs, qs, e, fun e => hp.ne hg0 (by rw [e]), hg, n, hq⟩
/-- what one taking off checks: always right -/
def spOne (K : PySem.W.Frag) : Sp := fun vs H Q _ => ∃ z vD vR vP D P0, vs = [.ref z, vD, vR, vP] ∧ PotOk (some z) H ∧ RL K D vD H ∧ IsRoot K D vR H ∧ RL K P0 vP H ∧ Good D ∧ PolyOk 9 P0 ∧ ∀ H', Kp (some z) H H' → Q (.bl true) H'
section
variable {P : Program} {w : World} {K : PySem.W.Frag} {mg : Str → Option Value} {base : Heap}
theorem c_one (T : Txt K mg) : CalG P w K mg base "_law_one_right" 11 (spOne K) := by
  obtain ⟨fd, F⟩ := T.f_F_law_one_right
  have F0 := F
  have e0 : d_F_law_one_right.dvs = [] := rfl
  rw [e0] at F0
  refine ⟨_, fd, ["_law_pot_here", "_law_root_poly", "_law_root_here", "_law_poly_here"], fn_ofG (N := ["_law_pot_here", "_law_root_poly", "_law_root_here", "_law_poly_here", "_law_given", "_law_due", "_law_shown", "_law_told_here", "_law_part"]) F ⟨rfl, rfl, rfl, by decide +kernel, rfl, by decide +kernel, by decide +kernel⟩ (fun vs H Q E ⟨z, vD, vR, vP, D, P0, e, _⟩ => by rw [e]; rfl)
    (fun cdv A outer s H vs Q E hr hgd ⟨z, vD, vR, vP, D, P0, e, hp, hD, hR, hP, gd, po, hQ⟩ => ?_), T.g__law_one_right, F.kp, F0.bindsN fun _ _ _ _ _ _ us hl => match us, hl with | [_, _, _, _], _ => rfl⟩
  subst e
  have nd : (["_law_pot_here", "_law_root_poly", "_law_root_here", "_law_poly_here", "_law_given", "_law_due", "_law_shown", "_law_told_here", "_law_part"] : List Str).Nodup := by decide +kernel
  have hgd' : (bodyX P w K mg base ["_law_pot_here", "_law_root_poly", "_law_root_here", "_law_poly_here", "_law_given", "_law_due", "_law_shown", "_law_told_here", "_law_part"] d_F_law_one_right cdv A outer s H E).A.guards = some [] := hgd
  have d := gd.d
  obtain ⟨d3, d9⟩ := d.len
  have lP := po.ln
  have tk := taken_of d po.bd (by decide) (by omega) po.tr
  have lt := tk.len
  have lf := Nat.le_trans (trim_le (takenF D P0).1) tk.fl
  have hnD : nD D = D.length - 1 := rfl
  -- given
  refine ss_set (pa := some z) 4 (P := GvP K P0 H) (ev_d2 (c_passed T) hr hp (by decide) (ev_v 0) (ev_n (P := RL K P0) 3 hP) fun v H1 k1 hv => ⟨_, ⟨P0, hv, by omega, rfl⟩, fun v H2 _ ⟨g, xs, qs, e, hg0, h⟩ => ⟨g, xs, qs, e, k1.free hg0, h⟩⟩) fun gv H1 k1 ⟨g, xs, qs, eg, hg0, hgx, hgn, hq⟩ => ?_
  subst eg
  have hgz : g ≠ z := fun e => hp.ne hg0 (by rw [e])
  have tq : trim qs = P0 := by
    rcases hq with e | e
    · rw [e]; exact po.tr
    · rw [e, trim_app0]; exact po.tr
  have lq : qs.length ≤ 10 := by
    rcases hq with e | e
    · rw [e]; omega
    · rw [e, List.length_append, List.length_singleton]; omega
  have fq : FL 6 30 qs := by
    rcases hq with e | e
    · rw [e]; exact po.fl
    · rw [e]; exact fl_app0 po.fl
  obtain ⟨ts, tl1, tl2, tl3⟩ := texts_of xs qs (by rw [hgn.1]) fq hgn.2
  obtain ⟨tup, hsh⟩ : ∃ tup, Shown K g tup xs ts H1 := by
    rcases hgx with h | h
    · exact ⟨false, h, tl3⟩
    · exact ⟨true, h, tl3⟩
  have htl : (textOf tup ts).length ≤ sizeLine := textOf_len tl2 (by rw [tl1, hgn.1]; omega)
  have gv_at : ∀ {H'}, Kp (some z) H1 H' → NLT K qs (.ref g) H' := fun k => nlt_kp hgx hgn hgz k
  have hto : TakOk D (trim qs) := by rw [tq]; exact tk.tak
  -- due, shown
  refine ss_par (pa := none) (Pa := TkPo K H1 (takenF D P0)) (Pb := Is (.str (textOf tup ts))) 5 6 (eva2 (S := inferInstanceAs (Stb none (Tup2 _ _))) (ev_c2 (c_ltaken T) hr (by decide) (ev_n (P := RL K D) 1 (hD.kp k1)) (ev_n (P := RL K P0) 3 (hP.kp k1)) fun x y H2 k2 hx hy => ⟨_, ⟨D, P0, hx, hy, tk.ltak, rfl⟩, fun v H3 _ ⟨t, x, y, e, ht, h1, h2⟩ => ⟨t, x, y, e, ht, h1.back k2, h2.back k2⟩⟩)
    (ev_repr T hr (by decide) hgd' tl1 htl (ev_v 4) fun H' k => hsh.kp hgz k.ofN)) fun due sh H2 k2 hdue esh => ?_
  subst esh
  have k12 : Kp (some z) H H2 := k1.trans k2.ofN
  have hdueR := hdue.rp
  have hR2 : IsRoot K D vR H2 := Stb.st _ _ _ k12 hR
  -- told
  refine ss_set (pa := none) 7 (P := TkPo K H2 (takenF D P0)) (ev_c2 (Pb := NLT K qs) (c_taken_off T) hr (by decide) (ev_n (P := IsRoot K D) 2 hR2) (ev_n (P := NLT K qs) 4 (gv_at k2.ofN)) fun x y H3 k3 hx hy => ⟨_, ⟨D, qs, hx, hy, hto, by omega, rfl⟩, fun v H4 _ h => by
    rw [tq] at h
    obtain ⟨t, x, y, e, ht, h1, h2⟩ := h
    exact ⟨t, x, y, e, ht, h1.back k3, h2.back k3⟩⟩) fun told H3 k3 htold => ?_
  have htoldR := htold.rp
  obtain ⟨t, tx, ty, et, htt, htx, hty⟩ := id htold
  subst et
  obtain ⟨px, xx, epx, px0, px3, rvx⟩ := htx
  obtain ⟨py, yy, epy, py0, py3, rvy⟩ := hty
  subst epx
  subst epy
  have tupT : ∀ {H'}, Kp (some z) H3 H' → H' t = some (.tup [V.ref px, V.ref py]) := fun k => k.get htt (fun z => z)
  -- the tests
  have rp_at : ∀ {v : V} {H4 H5 : Hp}, RP K (trim (takenF D P0).1, (takenF D P0).2) v H4 → Kp (some z) H4 H5 → RP K (trim (takenF D P0).1, (takenF D P0).2) v H5 := fun h k => Stb.st _ _ _ k h
  refine ss_ifF (pa := none) (ew_or2 (k := false) (k' := false) (et_not (k := true) (et_val (ev_isi (P := RP K (trim (takenF D P0).1, (takenF D P0).2)) T.n_isinstance (ev_n (P := RP K (trim (takenF D P0).1, (takenF D P0).2)) 7 htoldR) (ev_ty T.n_tuple) (.ty _) T.q_tuple_tuple fun v H' _ ⟨t, x, y, e, ht, _⟩ => by rw [e]; exact .base (.tup ht)))) fun _ =>
    ew_or2 (k := false) (k' := false) (et_neI (ev_len (n := 2) T.n_len (ev_v 7) fun v H' k e => ⟨t, _, e, .inr (SqT.of (tupT k.ofN)), rfl⟩) ev_int rfl) fun _ =>
    ew_or2 (k := false) (k' := false) (et_not (k := true) (et_val (ev_allT (n := 2) T.n_all (ev_lcT 8 [V.ref px, V.ref py] (fun _ => Is (.bl true)) (ev_v 7) potN (by show 2 ≤ 100000; decide) (fun v H' k e => ⟨t, e, fun H'' k2 => SqT.of (tupT (k.trans k2).ofN)⟩) fun n y H' hy k s0 H0 C cl fp => by
      have hy2 : (n = 0 ∧ y = V.ref px) ∨ (n = 1 ∧ y = V.ref py) := by
        match n, hy with
        | 0, hy => exact .inl ⟨rfl, (Option.some.inj hy).symm⟩
        | 1, hy => exact .inr ⟨rfl, (Option.some.inj hy).symm⟩
        | n + 2, hy => simp at hy
      rcases hy2 with ⟨_, rfl⟩ | ⟨_, rfl⟩
      · exact ev_c1 (c_is_told T) hr (by decide) (ev_n (P := RL K (trim (takenF D P0).1)) 8 ⟨px, xx, rfl, k.get0 px3, StbA.st _ _ _ k rvx⟩) fun v H4 _ h => ⟨_, ⟨_, h, trim_trim _, by omega, rfl⟩, fun _ _ _ h => h⟩
      · exact ev_c1 (c_is_told T) hr (by decide) (ev_n (P := RL K (takenF D P0).2) 8 ⟨py, yy, rfl, k.get0 py3, StbA.st _ _ _ k rvy⟩) fun v H4 _ h => ⟨_, ⟨_, h, tk.tr, by omega, rfl⟩, fun _ _ _ h => h⟩)))) fun _ =>
    ew_or1 (et_neP T hr (by decide) (ev_n (P := RP K (trim (takenF D P0).1, (takenF D P0).2)) 7 htoldR) (ev_n (P := RP K (trim (takenF D P0).1, (takenF D P0).2)) 5 (rp_at hdueR k3.ofN)))).et fun H4 k4 => ?_
  have k24 : Kp none H2 H4 := k3.trans k4
  have hR4 : IsRoot K D vR H4 := Stb.st (pa := none) _ _ _ k24 hR2
  have hD2 : RL K D vD H2 := hD.kp k12
  have hP2 : RL K P0 vP H2 := hP.kp k12
  have hD4 : RL K D vD H4 := hD2.kp k24
  have hP4 : RL K P0 vP H4 := hP2.kp k24
  have told4 := rp_at htoldR k4.ofN
  have due4 := rp_at hdueR k24.ofN
  have hg4 : NLT K qs (.ref g) H4 := gv_at (k2.trans k24).ofN
  have lc : (takenF D P0).1.length ≤ 8 := by rw [takenF_len]; unfold nD; omega
  have lf8 := Nat.le_trans (trim_le (takenF D P0).1) lc
  have lw8 : (takenF D P0).2.length ≤ 8 := by unfold nD at lt; omega
  have sb2 := tk.b2.szl (by decide)
  obtain ⟨so, _⟩ := sumOk_of d tk.b1 (by decide) (show (trim (takenF D P0).1).length ≤ 14 by omega)
  refine ss_ifF (pa := none) (ew_or2 (k := false) (k' := false) (et_gt (i := (((takenF D P0).2.length : Nat) : Int)) (j := (D.length : Int) - 2) (ev_lenR T.n_len (ev_snd (Pa := RL K (trim (takenF D P0).1)) (Pb := RL K (takenF D P0).2) (ev_n (P := RP K (trim (takenF D P0).1, (takenF D P0).2)) 7 told4))) (ev_sub (ev_lenR T.n_len (ev_n 1 hD4)) ev_int) (decide_eq_false (by omega))) fun _ =>
    ew_or1 (et_neP T hr (by decide) (ev_callK0 (f_taken_off T) T.g_taken_off (fun fd F => kb_taken F) hr (by decide) (evk (ev_n (P := NLT K qs) 4 hg4) (evk (ev_n (P := IsRoot K D) 2 hR4) evk0)) fun zs H1 Q k ⟨x, r, e, hx, y, r2, e2, hy, e3⟩ q => by
      obtain rfl : r2 = [] := e3
      subst e2
      subst e
      exact ⟨rfl, _, ⟨y, x, rfl, D, qs, hy, hx, hto, by omega, rfl⟩, fun v H' k' h => q v H' k'.ofN (by rw [tq] at h; exact h.rp)⟩)
      (ev_n (P := RP K (trim (takenF D P0).1, (takenF D P0).2)) 5 due4))).et fun H5 k5 => ?_
  have k25 : Kp none H2 H5 := k24.trans k5
  have k45 := k5
  have hR5 : IsRoot K D vR H5 := Stb.st (pa := none) _ _ _ k45 hR4
  have hD5 : RL K D vD H5 := hD4.kp k45
  have hP5 : RL K P0 vP H5 := hP4.kp k45
  have told5 := rp_at told4 k45.ofN
  have due5 := rp_at due4 k45.ofN
  obtain ⟨uo, ub⟩ := up_bd d tk.b1 (by decide) (show (trim (takenF D P0).1).length ≤ 20 by omega)
  have ul := up_len8 d lf8
  refine ss_ifF (pa := none) (ew_or2 (k := false) (k' := false) (et_neL T hr (by decide) ((ev_c3 (P := NL H5 (RVs K P0)) (c_summed_up T) hr (by decide) (ev_n (P := IsRoot K D) 2 hR5) (ev_fst (Pa := RL K (trim (takenF D P0).1)) (Pb := RL K (takenF D P0).2) (ev_n (P := RP K (trim (takenF D P0).1, (takenF D P0).2)) 7 told5)) (ev_snd (Pa := RL K (trim (takenF D P0).1)) (Pb := RL K (takenF D P0).2) (ev_n (P := RP K (trim (takenF D P0).1, (takenF D P0).2)) 7 told5)) fun x y v H6 k6 hx hy hv => ⟨_, ⟨D, _, _, hx, hy.nlt, hv.nlt, by rw [trim_trim]; exact so, sb2, by omega, by omega, rfl⟩, fun v H7 k7 h => by
      rw [trim_trim, tk.tr, back d tk po.tr] at h
      exact h.back k6⟩).imp fun v H' _ h => h.rl) (ev_n (P := RL K P0) 3 hP5)) fun _ =>
    ew_or1 (et_neL T hr (by decide) ((ev_c2 (P := NL H5 (RVs K P0)) (c_lsum T) hr (by decide) (ev_c2 (Pa := RL K D) (Pb := RL K (trim (takenF D P0).1)) (P := RL K (upL D (trim (takenF D P0).1))) (c_lup T) hr (by decide) (ev_n 1 hD5) (ev_fst (Pa := RL K (trim (takenF D P0).1)) (Pb := RL K (takenF D P0).2) (ev_n (P := RP K (trim (takenF D P0).1, (takenF D P0).2)) 5 due5)) fun x y H6 k6 hx hy => ⟨_, ⟨D, _, hx, hy, uo, rfl⟩, fun v H7 _ h => h.rl⟩)
      (ev_snd (Pa := RL K (trim (takenF D P0).1)) (Pb := RL K (takenF D P0).2) (ev_n (P := RP K (trim (takenF D P0).1, (takenF D P0).2)) 5 due5)) fun x y H6 k6 hx hy => ⟨_, ⟨_, _, hx, hy, ub.szl (by decide), sb2, fun i => by rw [← sumP_get, backL d tk po.tr]; exact po.sz i, by omega, by omega, rfl⟩, fun v H7 k7 h => by
      rw [backL d tk po.tr] at h
      exact h.back k6⟩).imp fun v H' _ h => h.rl) (ev_n (P := RL K P0) 3 hP5))).et fun H6 k6 => ?_
  have k26 : Kp none H2 H6 := k25.trans k6
  have hR6 : IsRoot K D vR H6 := Stb.st (pa := none) _ _ _ k6 hR5
  have hP6 : RL K P0 vP H6 := hP5.kp k6
  have due6 := rp_at due5 k6.ofN
  have hp6 : PotOk (some z) H6 := hp.at (k12.trans k26.ofN)
  refine ss_ifF (pa := some z) (et_neL T hr (by decide) ((ev_callK0 (P := RL K P0) (f_summed_up T) T.g_summed_up (fun fd F => kb_summed F) hr (by decide)
    (evk (P := GvZ K z (takenF D P0).2) (ev_d2 (c_passed T) hr hp6 (by decide) (ev_v 0) (ev_snd (Pa := RL K (trim (takenF D P0).1)) (Pb := RL K (takenF D P0).2) (ev_n (P := RP K (trim (takenF D P0).1, (takenF D P0).2)) 5 due6)) fun v H7 k7 hv => ⟨_, ⟨_, hv, by omega, rfl⟩, fun v H8 _ h => h.z (hp6.at k7)⟩)
      (evk (ev_n (P := IsRoot K D) 2 hR6)
        (evk (P := GvZ K z (trim (takenF D P0).1)) (ev_d2 (c_passed T) hr hp6 (by decide) (ev_v 0) (ev_fst (Pa := RL K (trim (takenF D P0).1)) (Pb := RL K (takenF D P0).2) (ev_n (P := RP K (trim (takenF D P0).1, (takenF D P0).2)) 5 due6)) fun v H7 k7 hv => ⟨_, ⟨_, hv, by omega, rfl⟩, fun v H8 _ h => h.z (hp6.at k7)⟩) evk0)))
    fun zs H7 Q k7 ⟨x, r, e, hx, y, r2, e2, hy, u, r3, e3, hu, e4⟩ q => by
      obtain rfl : r3 = [] := e4
      subst e3
      subst e2
      subst e
      obtain ⟨qw, nw, cw⟩ := hx.nlt
      obtain ⟨qf, nf, cf⟩ := hu.nlt
      have tw : trim qw = (takenF D P0).2 := by
        rcases cw with e | e
        · rw [e]; exact tk.tr
        · rw [e, trim_app0]; exact tk.tr
      have tf : trim qf = trim (takenF D P0).1 := by
        rcases cf with e | e
        · rw [e, trim_trim]
        · rw [e, trim_app0, trim_trim]
      have lw : qw.length ≤ 10 := by
        rcases cw with e | e
        · rw [e]; omega
        · rw [e, List.length_append, List.length_singleton]; omega
      have lf : qf.length ≤ 10 := by
        rcases cf with e | e
        · rw [e]; omega
        · rw [e, List.length_append, List.length_singleton]; omega
      have sw : SzL qw := by
        rcases cw with e | e
        · rw [e]; exact sb2
        · rw [e]; exact szl_app0 sb2
      exact ⟨rfl, _, ⟨y, u, x, rfl, D, qf, qw, hy, nf, nw, by rw [tf]; exact so, sw, by omega, by omega, rfl⟩, fun v H' k' h => q v H' k'.ofN (by
        rw [tw, tf, back d tk po.tr] at h
        exact h.rl)⟩)) (ev_n (P := RL K P0) 3 hP6)) fun H7 k7 => ?_
  have k27 : Kp (some z) H2 H7 := k26.ofN.trans k7
  have hp7 : PotOk (some z) H7 := hp6.at k7
  have hp2 : PotOk (some z) H2 := hp.at k12
  have nzx : (some z : Option Addr) ≠ some px := hp2.ne px0
  have nzy : (some z : Option Addr) ≠ some py := hp2.ne py0
  have k37 : Kp (some z) H3 H7 := ((k4.trans k5).trans k6).ofN.trans k7
  have px7 : H7 px = some (.lst xx) := k37.ne px3 nzx
  have py7 : H7 py = some (.lst yy) := k37.ne py3 nzy
  have lxx : xx.length = (trim (takenF D P0).1).length := rvx.1
  have lyy : yy.length = (takenF D P0).2.length := rvy.1
  have t7 : H7 t = some (.tup [V.ref px, V.ref py]) := tupT k37
  have npx : px ≠ t := fun e => by rw [e, htt] at px3; cases px3
  have npy : py ≠ t := fun e => by rw [e, htt] at py3; cases py3
  -- told[0].append(None)
  refine ss_append (pa := none) (Pa := Is (.ref px)) (Pb := Is .non) (ev_ixT (i := 0) (Pa := Is (.ref t)) (ev_v 7) ev_int fun v H' k e => ⟨t, _, V.ref px, e, SqT.of (k.get0 t7), rfl, rfl⟩) ev_non (fun v u H8 k8 ev eu => ?_) (fun v H' k e => ⟨px, xx, e, k.get0 px7⟩)
  obtain rfl : v = .ref px := ev
  obtain rfl : u = .non := eu
  refine ⟨px, xx, rfl, k8.get0 px7, smallLt (by omega), ?_⟩
  have k28 : Kp (some z) H2 (upd H8 px (.lst (xx ++ [V.non]))) := (k27.trans k8.ofN).mut px0
  have t8 : upd H8 px (.lst (xx ++ [V.non])) t = some (.tup [V.ref px, V.ref py]) := by rw [upd_ne npx.symm]; exact k8.get0 t7
  obtain ⟨ys, py8, lys⟩ : ∃ ys, upd H8 px (.lst (xx ++ [V.non])) py = some (.lst ys) ∧ ys.length ≤ 20 := by
    by_cases e : py = px
    · rw [e]
      exact ⟨_, upd_same, by rw [List.length_append, List.length_singleton]; omega⟩
    · rw [upd_ne e]
      exact ⟨_, k8.get0 py7, by omega⟩
  refine ss_append (pa := none) (Pa := Is (.ref py)) (Pb := Is .non) (ev_ixT (i := 1) (Pa := Is (.ref t)) (ev_v 7) ev_int fun v H' k e => ⟨t, _, V.ref py, e, SqT.of (k.get0 t8), rfl, rfl⟩) ev_non (fun v u H9 k9 ev eu => ?_) (fun v H' k e => ⟨py, ys, e, k.get0 py8⟩)
  obtain rfl : v = .ref py := ev
  obtain rfl : u = .non := eu
  refine ⟨py, ys, rfl, k9.get0 py8, smallLt (by omega), ?_⟩
  have kE : Kp (some z) H2 (upd H9 py (.lst (ys ++ [V.non]))) := (k28.trans k9.ofN).mut py0
  generalize upd H9 py (.lst (ys ++ [V.non])) = HE at kE
  have hRE : IsRoot K D vR HE := Stb.st _ _ _ kE hR2
  have dueE := rp_at hdueR kE
  have hgE : NLT K qs (.ref g) HE := gv_at (k2.ofN.trans kE)
  refine ss_ret (pa := none) (P := Is (.bl true)) (ev_and2 (k := true) (k' := true) (ev_eqP T hr (by decide) ((ev_c2 (Pa := IsRoot K D) (Pb := NLT K qs) (P := RP K (trim (takenF D P0).1, (takenF D P0).2)) (c_taken_off T) hr (by decide) (ev_n (P := IsRoot K D) 2 hRE) (ev_n (P := NLT K qs) 4 hgE) fun x y H3 k3 hx hy => ⟨_, ⟨D, qs, hx, hy, hto, by omega, rfl⟩, fun v H4 _ h => by
    rw [tq] at h
    exact h.rp⟩)) (ev_n (P := RP K (trim (takenF D P0).1, (takenF D P0).2)) 5 dueE)) fun _ => ev_one (ev_eqStr (ev_repr T hr (by decide) hgd' tl1 htl (ev_v 4) fun H' k => hsh.kp hgz ((k2.ofN.trans kE).trans k.ofN)) (ev_v 6))) fun v' H' k e => ?_
  obtain rfl : v' = .bl true := e
  exact hQ H' ((k1.trans (k2.ofN.trans kE)).trans k.ofN)
end
end RR
-- RPP
namespace RR
open PySem PySem.Spec PyProof.Rows L2
section
variable {X : Cx} {pa : Option Addr} {σ : L2.St} {H : Hp} {pos : Pos}
/-- [], as a row -/
theorem ev_nilR : Ev pa X (.List [] pos) σ H (RL X.K []) := ev_nil.imp fun v' H' k ⟨p, xs, e, n, hp, ex⟩ => ⟨p, xs, e, hp, by rw [ex]; exact ⟨rfl, fun i y e => by simp at e⟩⟩
end
/-- what one cell does beside the first check: sums of S and of w -/
structure UpW (D S w : List Rat) : Prop where
  up : UpOk D S
  so : SumOk D (trim S)
  ub : Bd 45 (upL D S)
  ul : (upL D S).length ≤ 11
  wb : Bd 51 (sumP (upL D S) w)
  wl : (sumP (upL D S) w).length ≤ 11
  e1 : sumP (sumdF D (trim S) (trim S).length) (trim []) = upL D S
  e2 : sumP (sumdF D (trim S) (trim S).length) (trim w) = sumP (upL D S) w
  t1 : Taken D (upL D S)
  t2 : Taken D (sumP (upL D S) w)
  u1 : trim (takenF D (upL D S)).1 = S ∧ (takenF D (upL D S)).2 = []
  u2 : trim (takenF D (sumP (upL D S) w)).1 = S ∧ (takenF D (sumP (upL D S) w)).2 = w
theorem upw_of {D S w : List Rat} {n : Nat} (d : DOk D) (hS : PolyOk 3 S) (hw : PolyOk n w) (lw : w.length + 2 ≤ D.length) : UpW D S w := by
  obtain ⟨d3, d9⟩ := d.len
  have lS := hS.ln
  obtain ⟨so, _⟩ := sumOk_of d hS.bd (by decide) (show S.length ≤ 14 by omega)
  obtain ⟨uo, ub⟩ := up_bd d hS.bd (by decide) (show S.length ≤ 20 by omega)
  have ul := up_len d lS
  have wb : Bd 51 (sumP (upL D S) w) := ub.sum hw.bd
  have wl : (sumP (upL D S) w).length ≤ 11 := sumP_len ul (by omega)
  have tu : trim (upL D S) = upL D S := trim_sumP _ _
  have t1 := taken_of d ub (by decide) (show (upL D S).length ≤ 14 by omega) tu
  have t2 := taken_of d wb (by decide) (show (sumP (upL D S) w).length ≤ 14 by omega) (trim_sumP _ _)
  have nil0 : ∀ i, ([] : List Rat).getD i 0 = 0 := fun i => getD_ge (Nat.zero_le _)
  have tn : trim ([] : List Rat) = [] := rfl
  refine {
    up := uo
    so := by rw [hS.tr]; exact so
    ub := ub
    ul := ul
    wb := wb
    wl := wl
    e1 := eq_of_trim (trim_sumP _ _) tu fun i => ?_
    e2 := eq_of_trim (trim_sumP _ _) (trim_sumP _ _) fun i => ?_
    t1 := t1
    t2 := t2
    u1 := taken_uniq d t1 hS.tr (by omega) tn (by unfold nD; show 0 < _; omega) fun i => ?_
    u2 := taken_uniq d t2 hS.tr (by omega) hw.tr (by unfold nD; omega) fun i => ?_ }
  · rw [hS.tr, tn, sumP_get, sumdF_get, upL_get, nil0, Rat.add_zero]
    rfl
  · rw [hS.tr, hw.tr, sumP_get, sumP_get, sumdF_get, upL_get]
    rfl
  · rw [upL_get, nil0, Rat.add_zero]
  · rw [sumP_get, upL_get]
/-- one cell's pot: always right -/
def spRight : Sp := fun vs H Q _ => ∃ z, vs = [.ref z] ∧ PotOk (some z) H ∧ ∀ H', Kp (some z) H H' → Q (.bl true) H'
section
variable {P : Program} {w : World} {K : PySem.W.Frag} {mg : Str → Option Value} {base : Heap}
theorem c_right (T : Txt K mg) : CalG P w K mg base "_law_right" 12 spRight := by
  obtain ⟨fd, F⟩ := T.f_F_law_right
  have F0 := F
  have e0 : d_F_law_right.dvs = [] := rfl
  rw [e0] at F0
  refine ⟨_, fd, ["_law_pot_here"], fn_ofG (N := ["_law_pot_here", "_law_root_poly", "_law_root_here", "_law_poly_here", "_law_first", "_law_up_here", "_law_low", "_law_whole"]) F ⟨rfl, rfl, rfl, by decide +kernel, rfl, by decide +kernel, by decide +kernel⟩ (fun vs H Q E ⟨z, e, _⟩ => by rw [e]; rfl)
    (fun cdv A outer s H vs Q E hr hgd ⟨z, e, hp, hQ⟩ => ?_), T.g__law_right, F.kp, F0.bindsN fun _ _ _ _ _ _ us hl => match us, hl with | [_], _ => rfl⟩
  subst e
  have nd : (["_law_pot_here", "_law_root_poly", "_law_root_here", "_law_poly_here", "_law_first", "_law_up_here", "_law_low", "_law_whole"] : List Str).Nodup := by decide +kernel
  have hgd' : (bodyX P w K mg base ["_law_pot_here", "_law_root_poly", "_law_root_here", "_law_poly_here", "_law_first", "_law_up_here", "_law_low", "_law_whole"] d_F_law_right cdv A outer s H E).A.guards = some [] := hgd
  -- the root's polynomial
  refine ss_set (pa := some z) 1 (P := RootP K) (ev_d1 (c_root T) hr hp (by decide) (ev_v 0) fun H1 k1 => ⟨_, rfl, fun v H2 _ h => h⟩) fun vD H1 k1 ⟨D, gd, hD⟩ => ?_
  have d := gd.d
  obtain ⟨d3, d9⟩ := d.len
  have hp1 := hp.at k1
  -- the root, two polynomials
  refine ss_par3 (pa := some z) (Pa := IsRoot K D) (Pb := fun v H' => ∃ P0, PolyOk 9 P0 ∧ RL K P0 v H') (Pc := fun v H' => ∃ S, PolyOk 3 S ∧ RL K S v H') 2 3 4 (eva3 (S2 := ⟨fun _ _ _ k ⟨P0, po, h⟩ => ⟨P0, po, h.kp k⟩⟩) (ev_root T hr gd.root (ev_n (P := RL K D) 1 hD) (by decide))
    (ev_d2 (Pb := Is (.int 8)) (c_poly T) hr hp1 (by decide) (ev_v 0) ev_int fun v H2 k2 e => ⟨_, ⟨8, e, by decide, rfl⟩, fun v H3 _ ⟨P0, po, h⟩ => ⟨P0, po, h.rl⟩⟩)
    (ev_d2 (Pb := Is (.int 2)) (c_poly T) hr hp1 (by decide) (ev_v 0) ev_int fun v H2 k2 e => ⟨_, ⟨2, e, by decide, rfl⟩, fun v H3 _ ⟨P0, po, h⟩ => ⟨P0, po, h.rl⟩⟩)) fun vR vP vS H2 k2 hR ⟨P0, po, hP⟩ ⟨S, ps, hS⟩ => ?_
  have hD2 : RL K D vD H2 := hD.kp k2
  have hp2 := hp1.at k2
  -- the first check
  refine ss_ifF (pa := some z) (et_not (k := true) (et_val (ev_callG (R := AC (Is (.ref z)) (AC (RL K D) (AC (IsRoot K D) (AC (RL K P0) AN)))) (c_one T) hr (by decide) hgd' (ea (ev_v 0) (ea (ev_n (P := RL K D) 1 hD2) (ea (ev_n (P := IsRoot K D) 2 hR) (ea1 (ev_n (P := RL K P0) 3 hP))))) fun vs H3 Q' k3 ⟨v1, r1, e1, hv1, v2, r2, e2, hv2, v3, r3, e3, hv3, v4, r4, e4, hv4, e5⟩ q => by
      obtain rfl : v1 = .ref z := hv1
      exact ⟨z, v2, v3, v4, D, P0, by rw [e1, e2, e3, e4, show r4 = [] from e5], hp2.at k3, hv2, hv3, hv4, gd, po, fun H' k' => q _ H' k' rfl⟩))) fun H3 k3 => ?_
  have hD3 : RL K D vD H3 := hD2.kp k3
  have hR3 : IsRoot K D vR H3 := Stb.st _ _ _ k3 hR
  have hS3 : RL K S vS H3 := hS.kp k3
  have hp3 := hp2.at k3
  obtain ⟨uo, ub⟩ := up_bd d ps.bd (by decide) (show S.length ≤ 20 by have := ps.ln; omega)
  -- up, low
  refine ss_par (pa := some z) (Pa := RL K (upL D S)) (Pb := fun v H' => ∃ W, PolyOk (D.length - 2) W ∧ RL K W v H') 5 6 (eva2 (ev_c2 (c_lup T) hr (by decide) (ev_n (P := RL K D) 1 hD3) (ev_n (P := RL K S) 4 hS3) fun x y H4 k4 hx hy => ⟨_, ⟨D, S, hx, hy, uo, rfl⟩, fun v H5 _ h => h.rl⟩)
    (ev_sl (P := fun v H' => ∃ W, PolyOk (D.length - 2) W ∧ RL K W v H') (Pa := fun v H' => ∃ W, PolyOk (D.length - 2) W ∧ RL K W v H') (S := ⟨fun _ _ _ k ⟨P0, po, h⟩ => ⟨P0, po, h.kp k⟩⟩)
      (ev_d2 (Pb := Is (.int ((D.length : Int) - 3))) (c_poly T) hr hp3 (by decide) (ev_v 0) (ev_sub (ev_lenR T.n_len (ev_n (P := RL K D) 1 hD3)) ev_int) fun v H4 k4 e => ⟨_, ⟨D.length - 3, by rw [show v = _ from e]; congr 1; omega, by omega, rfl⟩, fun v H5 _ ⟨W, pw, h⟩ => ⟨W, ⟨by have := pw.ln; omega, pw.tr, pw.fl⟩, h.rl⟩⟩)
      eo_none (eo_some (ev_sub (ev_lenR T.n_len (ev_n (P := RL K D) 1 hD3)) ev_int)) fun v' H' k ⟨W, pw, p, ys, e, hp, r⟩ => ⟨p, ys, e, SqL.of hp, fun q hq => ⟨W, pw, q, _, rfl, upd_same, by
        have ly : ys.length = W.length := r.1
        have lW := pw.ln
        have ec : cutV ys none (some ((D.length : Int) - 2)) = ys := by
          unfold cutV
          rw [HT.sIx_none, List.drop_zero]
          refine List.take_of_length_le ?_
          show ys.length ≤ (if ((D.length : Int) - 2) < 0 then (((D.length : Int) - 2) + (ys.length : Int)).toNat else min ((D.length : Int) - 2).toNat ys.length) - 0
          rw [if_neg (by omega)]
          omega
        rw [ec]
        exact StbA.st (pa := none) _ _ _ (Kp.new hq) r⟩⟩)) fun vU vW H4 k4 hU ⟨W, pw, hW⟩ => ?_
  have u := upw_of d ps pw (by have := pw.ln; omega)
  have lS := ps.ln
  have lW := pw.ln
  have ul := u.ul
  have wl := u.wl
  have hR4 : IsRoot K D vR H4 := Stb.st _ _ _ k4 hR3
  have hS4 : RL K S vS H4 := hS3.kp k4
  have tU : trim (upL D S) = upL D S := trim_sumP _ _
  have tW : trim (sumP (upL D S) W) = sumP (upL D S) W := trim_sumP _ _
  -- S sums up to up, and nothing is left of that
  refine ss_ifF (pa := none) (ew_or2 (k := false) (k' := false) (et_neL T hr (by decide) (ev_c3 (Pa := IsRoot K D) (Pb := RL K S) (Pc := RL K []) (P := RL K (upL D S)) (c_summed_up T) hr (by decide) (ev_n (P := IsRoot K D) 2 hR4) (ev_n (P := RL K S) 4 hS4) ev_nilR fun x y v H5 k5 hx hy hv => ⟨_, ⟨D, S, [], hx, hy.nlt, hv.nlt, u.so, (fun i => by rw [getD_ge (Nat.zero_le _)]; exact Sz.zero), by omega, Nat.zero_le _, rfl⟩, fun v H6 _ h => by
      rw [u.e1] at h
      exact h.rl⟩) (ev_n (P := RL K (upL D S)) 5 hU)) fun _ =>
    ew_or1 (et_neP (r := (S, [])) T hr (by decide) (ev_c2 (Pa := IsRoot K D) (Pb := RL K (upL D S)) (P := RP K (S, [])) (c_taken_off T) hr (by decide) (ev_n (P := IsRoot K D) 2 hR4) (ev_n (P := RL K (upL D S)) 5 hU) fun x y H5 k5 hx hy => ⟨_, ⟨D, upL D S, hx, hy.nlt, by rw [tU]; exact u.t1.tak, by omega, rfl⟩, fun v H6 _ h => by
      rw [tU] at h
      have h2 := h.rp
      rw [u.u1.1, u.u1.2] at h2
      exact h2⟩) (ev_tup2 (Pa := RL K S) (Pb := RL K []) (ev_n (P := RL K S) 4 hS4) ev_nilR))).et fun H5 k5 => ?_
  have hR5 : IsRoot K D vR H5 := Stb.st (pa := none) _ _ _ k5 hR4
  have hS5 : RL K S vS H5 := hS4.kp k5
  have hU5 : RL K (upL D S) vU H5 := hU.kp k5
  have hW5 : RL K W vW H5 := hW.kp k5
  have sW := pw.sz
  -- low, whole
  refine ss_set (pa := none) 6 (P := RL K W) (ev_c1 (Pa := RL K W) (c_told T) hr (by decide) (ev_n (P := RL K W) 6 hW5) fun v H6 k6 hv => ⟨_, ⟨W, hv.nls, sW, by omega, rfl⟩, fun v H7 _ h => by
      rw [pw.tr] at h
      exact h.rl⟩) fun vL H6 k6 hL => ?_
  refine ss_set (pa := none) 7 (P := RL K (sumP (upL D S) W)) (ev_c2 (Pa := RL K (upL D S)) (Pb := RL K W) (c_lsum T) hr (by decide) (ev_n (P := RL K (upL D S)) 5 (hU5.kp k6)) (ev_n (P := RL K W) 6 hL) fun x y H7 k7 hx hy => ⟨_, ⟨_, _, hx, hy, u.ub.szl (by decide), sW, (fun i => by rw [← sumP_get]; exact u.wb.szl (by decide) i), by omega, by omega, rfl⟩, fun v H8 _ h => h.rl⟩) fun vH H7 k7 hH => ?_
  have k57 := k6.trans k7
  have hR7 : IsRoot K D vR H7 := Stb.st (pa := none) _ _ _ k57 hR5
  have hS7 : RL K S vS H7 := hS5.kp k57
  have hL7 : RL K W vL H7 := hL.kp k7
  refine ss_ret (pa := none) (P := Is (.bl true)) (ev_and2 (k := true) (k' := true) (ev_eqL T hr (by decide) (ev_c3 (Pa := IsRoot K D) (Pb := RL K S) (Pc := RL K W) (P := RL K (sumP (upL D S) W)) (c_summed_up T) hr (by decide) (ev_n (P := IsRoot K D) 2 hR7) (ev_n (P := RL K S) 4 hS7) (ev_n (P := RL K W) 6 hL7) fun x y v H8 k8 hx hy hv => ⟨_, ⟨D, S, W, hx, hy.nlt, hv.nlt, u.so, sW, by omega, by omega, rfl⟩, fun v H9 _ h => by
      rw [u.e2] at h
      exact h.rl⟩) (ev_n (P := RL K (sumP (upL D S) W)) 7 hH)) fun _ =>
    ev_one (ev_eqP (r := (S, W)) T hr (by decide) (ev_c2 (Pa := IsRoot K D) (Pb := RL K (sumP (upL D S) W)) (P := RP K (S, W)) (c_taken_off T) hr (by decide) (ev_n (P := IsRoot K D) 2 hR7) (ev_n (P := RL K (sumP (upL D S) W)) 7 hH) fun x y H8 k8 hx hy => ⟨_, ⟨D, sumP (upL D S) W, hx, hy.nlt, by rw [tW]; exact u.t2.tak, by omega, rfl⟩, fun v H9 _ h => by
      rw [tW] at h
      have h2 := h.rp
      rw [u.u2.1, u.u2.2] at h2
      exact h2⟩) (ev_tup2 (Pa := RL K S) (Pb := RL K W) (ev_n (P := RL K S) 4 hS7) (ev_n (P := RL K W) 6 hL7)))) fun v' H' k e => ?_
  obtain rfl : v' = .bl true := e
  exact hQ H' ((((k1.trans k2).trans k3).trans k4).trans ((k5.trans k57).trans k).ofN)
end
end RR
-- RPQ
namespace RR
open PySem PySem.Spec PyProof.Rows L2
section
variable {X : Cx} {σ : L2.St} {H : Hp} {e : Expr} {es : List Expr} {P : V → Hp → Prop} {x : Str} {k j : Nat} {p pos : Pos}
/-- a call whose arguments are new at the very heap of the call -/
theorem ev_callH {sp : Sp} {R : Hp → List V → Hp → Prop} (c : CalG X.prog X.w X.K X.mg X.base x k sp) (hr : Room j X.A) (hk : k ≤ j) (hgd : X.A.guards = some []) (ha : ∀ H1, Kp none H H1 → EvA none X (e :: es) σ H1 (R H1))
    (h : ∀ H1 vs H2 Q, Kp none H H1 → Kp none H1 H2 → R H1 vs H2 → (∀ v H3, Kp none H1 H3 → P v H3 → Q v H3) → sp vs H2 Q E0) (hg : Gl X x := by rfl) (hdb : (x == ("__debug__" : Str)) = false := by decide)
    (he : starEach (e :: es) X.env = (false, eval e X.env) :: starEach es X.env := by rfl) (hpl : (backTo pos (starEach es X.env)).any (·.1) = false := by rfl) : Ev none X (.Call (.Name x p) (e :: es) [] pos) σ H P := by
  refine ⟨fun pins s σ' H1 Q I ⟨eσ, k1, q⟩ => ?_⟩
  subst eσ
  refine (pe_callG c hr hk hgd (ha H1 k1) hg hdb he hpl).run pins s σ' H1 Q I ⟨rfl, Kp.refl _, fun vs H2 k2 r => ?_⟩
  show sp (vs ++ []) H2 Q E0
  rw [List.append_nil]
  exact h H1 vs H2 Q k1 k2 r q
end
/-- the law's promise -/
def spLaw (K : PySem.W.Frag) : Sp := fun vs H Q _ => ∃ (a : Addr) (ns : List Int), vs = [.ref a] ∧ SqL K H a (iv ns) ∧ ∀ H', Q (.bl true) H'
section
variable {P : Program} {w : World} {K : PySem.W.Frag} {mg : Str → Option Value} {base : Heap}
theorem fn_law (T : Txt K mg) {fd : FuncData} (F : FunD K d_Flaw.name d_Flaw.qual d_Flaw.params d_Flaw.body d_Flaw.scope d_Flaw.dvs [] (d_Flaw.adr K) fd) : FnOkG P w K mg base 14 (d_Flaw.adr K) fd ["_law_script"] (spLaw K) := by
  refine fn_ofG (N := ["_law_script", "_law_k"]) F ⟨rfl, rfl, rfl, by decide +kernel, rfl, by decide +kernel, by decide +kernel⟩ (fun vs H Q E ⟨a, ns, e, _⟩ => by rw [e]; rfl)
    (fun cdv A outer s H vs Q E hr hgd ⟨a, ns, e, hs, hQ⟩ => ?_)
  subst e
  have nd : (["_law_script", "_law_k"] : List Str).Nodup := by decide +kernel
  have hgd' : (bodyX P w K mg base ["_law_script", "_law_k"] d_Flaw cdv A outer s H E).A.guards = some [] := hgd
  have sqk : ∀ {H' : Hp}, Kp none H H' → SqL K H' a (iv ns) := fun k => hs.ext k.ext
  refine ss_ret (pa := none) (P := Is (.bl true)) (ev_allT T.n_all (ev_lcR (z := max 1 (min 2 (ns.length : Int))) 1 (fun _ => Is (.bl true)) T.n_range (ev_max T.n_max ev_int (ev_min T.n_min ev_int (ev_len (n := ns.length) T.n_len (ev_v 0) fun v H' k e => ⟨a, _, e, .inl (sqk k), List.length_map ..⟩))) (by omega) (by omega) potN fun n H' hn k s0 H0 C cl fp => ?_)) fun v' H' k e => by
      obtain rfl : v' = .bl true := e
      exact hQ H'
  refine ev_callH (R := fun H1 => AC (fun v H2 => ∃ q o, v = .ref q ∧ H1 q = none ∧ H2 q = some o ∧ isPot o) AN) (c_right T) hr (by decide) hgd' (fun H1 k1 => ea1 (ev_c2 (Pa := Is (.ref a)) (Pb := Is (.int ((n : Nat) : Int))) (c_pot T) hr (by decide) (ev_v 0) (ev_v 1) fun x y H2 k2 ex ey => ⟨_, ⟨a, ns, n, ex, sqk ((k.trans k1).trans k2), ey, by omega, rfl⟩, fun v H3 _ ⟨q, o, e, n0, h1, h2⟩ => ⟨q, o, e, k2.free n0, h1, h2⟩⟩)) fun H1 vs H2 Q' k1 k2 ⟨v, r, e, ⟨q, o, ev, n0, hq, po⟩, er⟩ hq' => ?_
  subst ev
  refine ⟨q, by rw [e, show r = [] from er], fun b eb => ?_, fun H3 k3 => hq' _ H3 (fun b u hb => ?_) rfl⟩
  · obtain rfl := Option.some.inj eb
    exact ⟨o, hq, po⟩
  · rcases k2 b u hb with h1 | ⟨z, _⟩
    · rcases k3 b u h1 with h2 | ⟨z, _⟩
      · exact .inl h2
      · obtain rfl := Option.some.inj z
        rw [n0] at hb
        cases hb
    · cases z
end
/-! ### the call of the law, from outside -/
theorem toV_ints : ∀ {us : List Value} {ns : List Int}, IntsAre us ns → us.map toV = ns.map V.int ∧ us.length = ns.length ∧ ∀ u ∈ us, OkU [] u
  | _, _, .nil => ⟨rfl, rfl, fun u h => nomatch h⟩
  | _, _, .cons n t h => by
    obtain ⟨h1, h2, h3⟩ := toV_ints h
    refine ⟨?_, ?_, fun u hu => ?_⟩
    · rw [List.map_cons, List.map_cons, h1]
      rfl
    · rw [List.length_cons, List.length_cons, h2]
    · rcases List.mem_cons.mp hu with e | h
      · rw [e]
        exact trivial
      · exact h3 u h
/-- what the law's call gives, from a promise that is kept where no text of a list is under way -/
theorem call_lawG {P : Program} {w : World} {K : PySem.W.Frag} {mg mb : Str → Option Value} {k : Nat} {f a : Addr} {fd : FuncData} {p0 : Str} {sp : Sp} {s : Shared} {us : List Value} {ns : List Int}
    (kin : K.In s.heap) (gl : s.heap.Ns mainGlobals mg) (bl : s.heap.Ns builtinsNs mb) (bo : ∀ y : Str, y ≠ "__name__" → mb y = bootBuiltins y) (nl : s.heap.NoLimit) (ng : s.gens = #[])
    (hs : s.heap.get? a = some { cls := .type "list", data := .seq us.toArray }) (hi : IntsAre us ns) (sz : ns.length ≤ sizeLine) (hr : Room k callerA)
    (F : ∀ base : Heap, K.In base → base.Ns mainGlobals mg → FnOkG P w K mg base k f fd [p0] sp) (bd : ∀ (t : Shared) (u : Value), BindsTo t fd ⟨[u], []⟩ [(p0, u)])
    (hsp : ∀ H : Hp, SqL K H a (ns.map V.int) → sp [.ref a] H (fun v _ => v = .bl true) fun _ _ _ => False) :
    codeAny (model P w) callerA (.call (.ref f) ⟨[.ref a], []⟩) (fun r t => r = .ok (.ret (.bool true)) ∧ OldK s.heap t.heap ∧ t.os = s.os ∧ AllBare t.gens) s := by
  obtain ⟨m1, m2, m3⟩ := toV_ints hi
  have ok : ∀ u ∈ us, OkU [a] u := fun u hu => OkU.mono (A := []) (fun b hb => by cases hb) (m3 u hu)
  have ar : ∀ b ∈ [a], ArgOb s.heap [a] b := fun b hb => by
    obtain rfl := List.mem_singleton.mp hb
    exact ⟨us, by rw [m2]; exact sz, ok, .inl hs⟩
  -- only the script is known, and only where it is not a part of the text's own
  generalize eH : argH K s.heap [a] = H
  have hO : OnlyF H := by rw [← eH]; exact argH_only ar
  have hk : HOk P w H s.heap := by rw [← eH]; exact argH_ok ar
  have hS : SqL K H a (ns.map V.int) := by rw [← eH, ← m1]; exact (argL kin ar (List.mem_singleton.mpr rfl) hs).2
  have known : ∀ {b : Addr} {u : HO}, H b = some u → b = a ∧ K.lookup b = none := fun q => by
    rw [← eH] at q
    obtain ⟨h1, h2⟩ := of_argH q
    exact ⟨List.mem_singleton.mp h1, h2⟩
  have free : ∀ {b : Addr}, (∀ u, H b = some u → False) → H b = none := fun {b} z => by
    cases q : H b with
    | none => rfl
    | some u => exact (z u q).elim
  have space : ∀ {b : Addr} {m : Str → Option Value}, s.heap.Ns b m → (hidT s.heap H).Ns b m := fun {b m} ⟨o, es, ep, e, d, r⟩ => ⟨o, es, ep, hidT_get e (free fun u q => by
    have hb := (known q).1
    rw [hb, hs] at e
    rw [← Option.some.inj e] at d
    exact nomatch (show Data.seq us.toArray _ = Data.dict es ep from d)), d, r⟩
  have kb : K.In (hidT s.heap H) := fun b o e => hidT_get (kin b o e) (free fun u q => by
    rw [(known q).2] at e
    exact nomatch e)
  obtain ⟨mc, c1, c2⟩ := nl
  have start : Env0 P w K mg (hidT s.heap H) callerA [] s H := {
    frames := rfl
    mod := { kin := kb, glob := space gl, blt := ⟨mb, space bl, bo⟩, nolimit := ⟨mc, space c1, c2⟩ }
    bs := fun b o e => of_hidT e
    bsz := Nat.le_of_eq (hidT_size _ _)
    funs := trivial
    frf := fun b hb => nomatch (show b ∈ ([] : List Addr) from hb)
    hok := hk
    bare := .of_eq ng }
  have run := (F _ kb (space gl)).run callerA [] s H ⟨[.ref a], []⟩ [.ref a] [.ref a] (fun v _ => v = .bl true) (fun _ _ _ => False) hr rfl start (bd s (.ref a)) (.cons rfl .nil) (hsp H hS)
  refine codeAny_mono run fun r t h => ?_
  cases r with
  | error e => exact False.elim h
  | ok fl =>
    cases fl with
    | next => exact False.elim h
    | brk => exact False.elim h
    | cont => exact False.elim h
    | ret u =>
      obtain ⟨v, H', os, bare, un, hk', rv, q⟩ := h
      rw [show v = .bl true from q] at rv
      refine ⟨by rw [show u = Value.bool true from rv], OldK.of_keep fun b o e => ?_, os, bare⟩
      rcases hO b with z | ⟨ob, fu, z⟩
      · exact un.keep b o e z (fun y => nomatch (show b ∈ ([] : List Addr) from y)) (by simp)
      · have e1 := (hk b _ z).1
        rw [e] at e1
        rw [Option.some.inj e1]
        exact (hk' b _ (un.frzs b ob _ z)).1
/-- the goal that the head leaves -/
theorem walk_lawG {l : PySem.W.OpenLaw} {n k : Nat} {q : Program} {loose : List Str} {XP : (Str → Option Value) → Heap → Prop} {YP : World → Heap → Prop} {d : DefRec} {p0 : Str}
    (hn : l.most = some n) (hz : n ≤ sizeLine) (hdf : d.params.defaults = []) (hr : Room k callerA)
    (F : ∀ (w : World) (mg : Str → Option Value) (f : Addr) (h : Heap), YP w h → h.Ns mainGlobals mg → mg d.name = some (.ref f) →
      ∃ (K : PySem.W.Frag) (fd : FuncData) (sp : Sp), K.In h ∧ (∀ (t : Shared) (u : Value), BindsTo t fd ⟨[u], []⟩ [(p0, u)]) ∧
        (∀ (H : Hp) (a : Addr) (ns : List Int), SqL K H a (ns.map V.int) → sp [.ref a] H (fun v _ => v = .bl true) fun _ _ _ => False) ∧
        ∀ base : Heap, K.In base → base.Ns mainGlobals mg → FnOkG l.prog w K mg base k f fd [p0] sp) :
    PySem.W.WalkO q loose XP YP l.row.toRowW d [] (fun f us => PySem.call f us) := by
  refine Att.attach_call hn hdf fun w s₀ s mg mb f o pm cd doc a us ns G Y ho hd hcd hmg hobj hints hlen hg => ?_
  obtain ⟨K, fd, sp, kin, hb, hsp, hF⟩ := F w mg f _ Y G.T.g hmg
  exact call_lawG kin G.T.g G.T.b G.T.builtins G.T.nolimit hg hobj hints (Nat.le_trans hlen hz) hr hF hb fun H hS => hsp H a ns hS
end RR
-- RPZ
namespace RR
open PySem PySem.Spec PyProof.Rows L2
/-- what the head's facts give of the law -/
theorem facts {P : Program} {w : World} {K : PySem.W.Frag} {h : Heap} {mg : Str → Option Value} {f : Addr} (X : K.In h) (G : h.Ns mainGlobals mg) (hf : mg ("law" : Str) = some (.ref f)) (c : obsR faList exList fnList K = valR fnList) :
    ∃ fd : FuncData, (∀ (t : Shared) (v : Value), BindsTo t fd ⟨[v], []⟩ [("_law_script", v)]) ∧ ∀ base : Heap, K.In base → base.Ns mainGlobals mg → FnOkG P w K mg base 14 f fd ["_law_script"] (spLaw K) := by
  have T := txt_of X G c
  obtain ⟨fd, F⟩ := T.f_Flaw
  have e : f = He.ga K "law" := by
    have e := hf.symm.trans T.g_law
    injection e with e
    injection e
  subst e
  have F0 := F
  have e0 : d_Flaw.dvs = [] := rfl
  rw [e0] at F0
  have b := FunD.bindsA (ps := ["_law_script"]) F0 fun _ _ _ _ _ _ us hl => match us, hl with | [_], _ => rfl
  exact ⟨fd, fun t v => b t [v] rfl, fun base _ _ => fn_law T F⟩
end RR
open PySem PySem.W PySem.Calls PyProof.Rows
set_option maxHeartbeats 0 in
theorem PySem.Challenge.cw_rootsround_k61_whole_taken_off_and_summe_holds : PySem.Challenge.rw_rootsround_k61_whole_taken_off_and_summe.Holds := by
  w_on; o_law
  refine HandSHeadRun.head_imp (r := OpenLaw.row PySem.Challenge.rw_rootsround_k61_whole_taken_off_and_summe) (q := RR.viewO) (H := RR.hk) (ob := RR.ob) (M := 7000) (loose := RR.names)
    (d := HandSHeadRun.topDef (OpenLaw.row PySem.Challenge.rw_rootsround_k61_whole_taken_off_and_summe).prog 87) (kwd := []) RR.ob_eq RR.run (by kernel_rfl) (by kernel_rfl) (by kernel_rfl) (by rfl) (by first | assumption | decide +kernel) (by decide +kernel) ⟨rfl, rfl, rfl, rfl, rfl, by decide +kernel⟩ ?hw ?hc
  case hw => w_witness2
  case hc =>
    refine RR.walk_lawG (l := PySem.Challenge.rw_rootsround_k61_whole_taken_off_and_summe) (n := 63) (k := 14) (p0 := "_law_script") rfl (by decide) (by kernel_rfl) ⟨rfl, by decide, by decide⟩ ?F
    intro w mg fa h Y G hmg0
    obtain ⟨K, KX, c⟩ := Y
    have hmg : mg ("law" : PySem.Str) = some (.ref fa) := by
      have e : (HandSHeadRun.topDef (OpenLaw.row PySem.Challenge.rw_rootsround_k61_whole_taken_off_and_summe).prog 87).name = ("law" : PySem.Str) := by kernel_rfl
      rw [← e]
      exact hmg0
    obtain ⟨fd, hb, hF⟩ := RR.facts (P := (PySem.Challenge.rw_rootsround_k61_whole_taken_off_and_summe).prog) (w := w) KX G hmg c
    exact ⟨K, fd, RR.spLaw K, KX, hb, fun H a ns hS => ⟨a, ns, rfl, hS, fun _ => rfl⟩, hF⟩

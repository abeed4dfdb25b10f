import PyProof.Rows.All
import Wide.All
import OpenK.AllK
import Wide.FinOn
import PyProof.EqAt
import PyProof.EqKinds
import PyProof.TupleCall
import Open.SpecLaws
import KE.OsGo
import KE.OsHead
import HandS.ForSpec
import HandS.Comp
import HandS.Evl
import HandS.Wide
import HandS.WideBits
import HandS.ExcInit
import HandS.ExcField
import HandS.CallLocal
import HandS.Defaults
import HandS.HeadHook1
import HandS.HeadHook2
import HandS.Head4
import PySem.Challenge.RW_flagwork_s02_when
set_option Elab.async false
set_option linter.all false
set_option maxRecDepth 100000
set_option maxHeartbeats 0
/-! FwMath: plain Lean over the specification; no program in sight. -/
namespace Fw
/-! ### single bits -/
theorem two_pos (p : Nat) : 0 < 2 ^ p := Nat.pow_pos (by decide)
theorem bit_if (f p : Nat) : f / 2 ^ p % 2 = if FwOps.bitAt f p = true then 1 else 0 := by
  unfold FwOps.bitAt
  have h := Nat.mod_two_eq_zero_or_one (f / 2 ^ p)
  rcases h with h | h <;> rw [h] <;> rfl
theorem bit_le (n p : Nat) : n / 2 ^ p % 2 * 2 ^ p ≤ n := by
  rcases Nat.mod_two_eq_zero_or_one (n / 2 ^ p) with h | h
  · rw [h]
    omega
  · rw [h, Nat.one_mul]
    have h2 : n / 2 ^ p ≠ 0 := fun z => by
      rw [z] at h
      cases h
    exact Nat.le_of_not_lt fun z => h2 (Nat.div_eq_of_lt z)
theorem withBit_is (n p : Nat) (v : Bool) : n - n / 2 ^ p % 2 * 2 ^ p + (if v = true then 1 else 0) * 2 ^ p = FwOps.withBit n p v := by
  have hle := bit_le n p
  have hb := bit_if n p
  unfold FwOps.withBit
  rw [hb] at hle ⊢
  cases hv : v <;> cases hk : FwOps.bitAt n p <;> simp [hk] at hle ⊢
  omega
theorem put_is (f p : Nat) (v : Bool) : FwOps.withBit f p v = FwOps.put f (p, v) := rfl
theorem giving_more {f i : Nat} {g : FwOps.Given} {l : List FwOps.Given} (h : l.take (i + 1) = l.take i ++ [g]) : FwOps.giving f (l.take (i + 1)) = FwOps.put (FwOps.giving f (l.take i)) g := by
  unfold FwOps.giving
  rw [h, List.foldl_append]
  rfl
/-! ### the byte of flags -/
def byteStep (f a p : Nat) : Nat := a + f / 2 ^ p % 2 * 2 ^ p
def byteRun (f : Nat) (l : List Nat) : Nat := l.foldl (byteStep f) 2
theorem byte_is (f : Nat) : byteRun f [7, 6, 4, 2, 0] = FwOps.byteOf f := by
  unfold byteRun FwOps.byteOf FwOps.SIGN FwOps.ZERO FwOps.HALF FwOps.PARITY FwOps.CARRY
  simp only [List.foldl, List.map, byteStep, bit_if f]
  generalize FwOps.bitAt f 7 = a
  generalize FwOps.bitAt f 6 = b
  generalize FwOps.bitAt f 4 = c
  generalize FwOps.bitAt f 2 = d
  generalize FwOps.bitAt f 0 = e
  revert a b c d e
  decide
theorem byteRun_more {f i p : Nat} {l : List Nat} (h : l.take (i + 1) = l.take i ++ [p]) : byteRun f (l.take (i + 1)) = byteStep f (byteRun f (l.take i)) p := by
  unfold byteRun
  rw [h, List.foldl_append]
  rfl
/-! ### conditions -/
def evenC (f : Nat) : List Bool := [FwOps.bitAt f 11, FwOps.bitAt f 0, FwOps.bitAt f 6, FwOps.bitAt f 0 || FwOps.bitAt f 6, FwOps.bitAt f 7, FwOps.bitAt f 2, FwOps.bitAt f 7 != FwOps.bitAt f 11, FwOps.bitAt f 6 || FwOps.bitAt f 7 != FwOps.bitAt f 11]
theorem holds_is (f c : Nat) (h : c ≤ 15) : ((evenC f).getD (c / 2) false == decide (c / 2 * 2 = c)) = FwOps.holds f c := by
  unfold FwOps.holds FwOps.SIGN FwOps.ZERO FwOps.OVER FwOps.PARITY FwOps.CARRY evenC
  generalize FwOps.bitAt f 11 = o
  generalize FwOps.bitAt f 7 = s
  generalize FwOps.bitAt f 6 = z
  generalize FwOps.bitAt f 0 = k
  generalize FwOps.bitAt f 2 = p
  have key : ∀ c : Fin 16, ∀ o s z k p : Bool, (([o, k, z, k || z, s, p, s != o, z || s != o].getD (c.val / 2) false) == decide (c.val / 2 * 2 = c.val)) =
      ((match c.val / 2 with | 0 => o | 1 => k | 2 => z | 3 => k || z | 4 => s | 5 => p | 6 => s != o | _ => z || s != o) != decide (c.val % 2 = 1)) := by decide
  exact key ⟨c, by omega⟩ o s z k p
end Fw
/-! FwLayer: a derivation and its evaluation in one term. EW, TW, AW, SW: the widest reading of a piece of syntax (some reading that the layer proves, and it holds). -/
namespace Fw
open PySem PySem.Spec PyProof.Rows L2 Evl
abbrev Str := PySem.Str
abbrev St := L2.St
def EW (X : Cx) (e : Expr) : TE := fun σ H Q => ∃ t, PE X e t ∧ t σ H Q
def TW (X : Cx) (e : Expr) : TT := fun σ H Q => ∃ t, PT X e t ∧ t σ H Q
def BW (X : Cx) (e : Expr) : TT := fun σ H Q => ∃ t, PW X e t ∧ t σ H Q
def AW (X : Cx) (es : List Expr) : TA := fun σ H Q => ∃ t, PA X es t ∧ t σ H Q
def SW (X : Cx) (b : List Stmt) : TS := fun D σ H => ∃ t, PSs X b t ∧ t D σ H
theorem EW.pe {X : Cx} {e : Expr} : PE X e (EW X e) := ⟨fun pins s σ H Q I ⟨_, h, q⟩ => h.run pins s σ H Q I q⟩
theorem TW.pt {X : Cx} {e : Expr} : PT X e (TW X e) := ⟨fun pins s σ H Q I ⟨_, h, q⟩ => h.run pins s σ H Q I q⟩
theorem BW.pw {X : Cx} {e : Expr} : PW X e (BW X e) := ⟨fun wh pins s σ H Q I ⟨_, h, q⟩ => h.run wh pins s σ H Q I q⟩
theorem AW.pa {X : Cx} {es : List Expr} : PA X es (AW X es) := ⟨fun pos pins s σ H Q I ⟨_, h, q⟩ => h.run pos pins s σ H Q I q⟩
theorem SW.pss {X : Cx} {b : List Stmt} : PSs X b (SW X b) := ⟨fun pins s σ H D I ⟨_, h, q⟩ => h.run pins s σ H D I q⟩
theorem SW.nox {X : Cx} {b : List Stmt} {D : Ends} {σ : St} {H : Hp} (h : SW X.nox b D σ H) : SW X b D σ H := by
  obtain ⟨t, a, q⟩ := h
  exact ⟨t, a.nox, q⟩

/-- evaluates to a thing that P tells of, whatever has come to the heap meanwhile -/
def Gets (X : Cx) (σ : St) (H : Hp) (e : Expr) (P : V → Hp → Prop) : Prop := ∀ H1, Ex H H1 → ∀ Q : VK, (∀ v H2, Ex H1 H2 → P v H2 → Q v H2) → EW X e σ H1 Q
/-- evaluates to v -/
def Is (X : Cx) (σ : St) (H : Hp) (e : Expr) (v : V) : Prop := Ev (EW X e) σ H v
def Tru (X : Cx) (σ : St) (H : Hp) (e : Expr) (b : Bool) : Prop := EvT (TW X e) σ H b
def Brn (X : Cx) (σ : St) (H : Hp) (e : Expr) (b : Bool) : Prop := EvT (BW X e) σ H b
def As (X : Cx) (σ : St) (H : Hp) (es : List Expr) (vs : List V) : Prop := EvA (AW X es) σ H vs
def AGets (X : Cx) (σ : St) (H : Hp) (es : List Expr) (R : List V → Hp → Prop) : Prop := ∀ H1, Ex H H1 → ∀ Q : List V → Hp → Prop, (∀ vs H2, Ex H1 H2 → R vs H2 → Q vs H2) → AW X es σ H1 Q
/-- a block, whatever has come to the heap -/
def Runs (X : Cx) (H : Hp) (b : List Stmt) (D : Ends) (σ : St) : Prop := ∀ H1, Ex H H1 → SW X b D σ H1

section
variable {X : Cx} {σ : St} {H H' : Hp} {e a b c o : Expr} {es : List Expr} {v x y z : V} {vs : List V} {P P' : V → Hp → Prop} {R R' : List V → Hp → Prop} {pos p p' apos : Pos} {D : Ends} {rest : List Stmt}
theorem Is.gets (h : Is X σ H e v) : Gets X σ H e (fun x _ => x = v) := fun H1 e1 Q q => h H1 e1 Q fun H2 e2 => q v H2 e2 rfl
theorem Gets.is (h : Gets X σ H e (fun x _ => x = v)) : Is X σ H e v := fun H1 e1 Q q => h H1 e1 Q fun w H2 e2 hw => by
  subst hw
  exact q H2 e2
theorem As.gets (h : As X σ H es vs) : AGets X σ H es (fun ws _ => ws = vs) := fun H1 e1 Q q => h H1 e1 Q fun H2 e2 => q vs H2 e2 rfl
theorem Gets.imp (h : Gets X σ H e P) (k : ∀ v H1, Ex H H1 → P v H1 → P' v H1) : Gets X σ H e P' := fun H1 e1 Q q => h H1 e1 Q fun v H2 e2 hp => q v H2 e2 (k v H2 (e1.trans e2) hp)
theorem Is.to (h : Is X σ H e v) (k : v = x) : Is X σ H e x := k ▸ h
theorem Tru.to {b b' : Bool} (h : Tru X σ H e b) (k : b = b') : Tru X σ H e b' := k ▸ h
theorem Is.mono (k : Ex H H') (h : Is X σ H e v) : Is X σ H' e v := fun H1 e1 Q q => h H1 (k.trans e1) Q q
theorem Gets.mono (k : Ex H H') (h : Gets X σ H e P) : Gets X σ H' e P := fun H1 e1 Q q => h H1 (k.trans e1) Q q
theorem Runs.mono (k : Ex H H') (h : Runs X H rest D σ) : Runs X H' rest D σ := fun H1 e1 => h H1 (k.trans e1)
theorem is_of {t : TE} (h : PE X e t) (k : Ev t σ H v) : Is X σ H e v := fun H1 e1 Q q => ⟨t, h, k H1 e1 Q q⟩

/-! ### names, constants -/
abbrev nv (n : Nat) : V := .int (n : Int)
theorem x_var (i : Nat) {n : Str} (hN : X.N[i]? = some n) (hv : Vis X.env.scope n) (h : σ[i]? = some (some v)) (hd : (n == ("__debug__" : Str)) = false := by decide) (hc : (n == ("__classdict__" : Str)) = false := by decide) : Is X σ H (.Name n pos) v :=
  is_of (pe_var hN hv hd hc) (ev_var h)
/-- a local name: its slot -/
theorem xv (i : Nat) {n : Str} (hN : X.N[i]? = some n := by rfl) (hv : Vis X.env.scope n := by first | exact Or.inl rfl | exact Or.inr (Or.inl rfl) | exact Or.inr (Or.inr rfl)) (h : σ[i]? = some (some v) := by rfl) (hd : (n == ("__debug__" : Str)) = false := by decide)
    (hc : (n == ("__classdict__" : Str)) = false := by decide) : Is X σ H (.Name n pos) v := x_var i hN hv h hd hc
theorem xi {i : Int} {j : Nat} : Is X σ H (.Constant (.int i) j pos) (.int i) := is_of pe_int ev_c
/-- a written number from 0 on -/
theorem xn (n : Nat) {i : Int} {j : Nat} (h : i = (n : Int) := by rfl) : Is X σ H (.Constant (.int i) j pos) (nv n) := by
  subst h
  exact xi
theorem xb {k : Bool} {j : Nat} : Is X σ H (.Constant (.bool k) j pos) (.bl k) := is_of pe_bl ev_c
theorem xg {n : Str} {u : Value} (hm : X.mg n = some u) (r : RelV v u) (hg : Gl X n := by rfl) (hd : (n == ("__debug__" : Str)) = false := by decide) : Is X σ H (.Name n pos) v := is_of (pe_glob hg hm r hd) ev_c
/-- a number of the module's -/
theorem xgi {n : Str} {i : Int} (hm : ∃ t, X.mg n = some (.int i t)) (hg : Gl X n := by rfl) (hd : (n == ("__debug__" : Str)) = false := by decide) : Is X σ H (.Name n pos) (.int i) := by
  obtain ⟨t, h⟩ := hm
  exact xg h ⟨t, rfl⟩ hg hd
theorem xgn {n : Str} (k : Nat) {i : Int} (hm : ∃ t, X.mg n = some (.int i t)) (h : i = (k : Int) := by rfl) (hg : Gl X n := by rfl) (hd : (n == ("__debug__" : Str)) = false := by decide) : Is X σ H (.Name n pos) (nv k) := by
  subst h
  exact xgi hm hg hd
/-- an object of the module's -/
theorem xgr {n : Str} {q : Addr} (hm : X.mg n = some (.ref q)) (hg : Gl X n := by rfl) (hd : (n == ("__debug__" : Str)) = false := by decide) : Is X σ H (.Name n pos) (.ref q) := xg hm rfl hg hd

/-! ### operators -/
theorem x_op {op : Operator} {r : R2} (ho : OpR X (binaryOp op) r) (ha : Is X σ H a x) (hb : Is X σ H b y) (hr : RV r x y H z) : Is X σ H (.BinOp a op b pos) z := is_of (pe_op ho EW.pe EW.pe) (ev_op ha hb hr)
theorem rv_of {r : R2} (h : ∀ H1 (Q : VK), Q z H1 → r x y H1 Q) : RV r x y H z := fun H1 _ Q q => h H1 Q (q H1 (Ex.refl H1))
section
variable {i j : Int} {n m : Nat}
theorem addI (ha : Is X σ H a (.int i)) (hb : Is X σ H b (.int j)) : Is X σ H (.BinOp a .Add b pos) (.int (i + j)) := x_op op_add ha hb rv_I0
theorem subI (ha : Is X σ H a (.int i)) (hb : Is X σ H b (.int j)) : Is X σ H (.BinOp a .Sub b pos) (.int (i - j)) := x_op op_sub ha hb rv_I0
theorem addN (ha : Is X σ H a (nv n)) (hb : Is X σ H b (nv m)) : Is X σ H (.BinOp a .Add b pos) (nv (n + m)) := (addI ha hb).to (by rw [← Int.natCast_add])
theorem subN (ha : Is X σ H a (nv n)) (hb : Is X σ H b (nv m)) (h : m ≤ n) : Is X σ H (.BinOp a .Sub b pos) (nv (n - m)) := (subI ha hb).to (by rw [← Int.ofNat_sub h])
theorem mulI (ha : Is X σ H a (.int i)) (hb : Is X σ H b (.int j)) (h : CMulX i j) : Is X σ H (.BinOp a .Mult b pos) (.int (i * j)) := x_op op_mulX ha hb (rv_I h)
theorem mulN (ha : Is X σ H a (nv n)) (hb : Is X σ H b (nv m)) (h : CMulX n m) : Is X σ H (.BinOp a .Mult b pos) (nv (n * m)) := (mulI ha hb h).to (by rw [← Int.natCast_mul])
theorem modI (ha : Is X σ H a (.int i)) (hb : Is X σ H b (.int j)) (h : 0 < j) : Is X σ H (.BinOp a .Mod b pos) (.int (i % j)) := x_op op_mod ha hb (rv_I h)
theorem modN (ha : Is X σ H a (nv n)) (hb : Is X σ H b (nv m)) (h : 0 < m) : Is X σ H (.BinOp a .Mod b pos) (nv (n % m)) := (modI ha hb (by omega)).to (by rw [← Int.natCast_emod])
theorem divI (ha : Is X σ H a (.int i)) (hb : Is X σ H b (.int j)) (h : CDivW i j) : Is X σ H (.BinOp a .FloorDiv b pos) (.int (i / j)) := x_op op_fdivW ha hb (rv_I h)
theorem divN (ha : Is X σ H a (nv n)) (hb : Is X σ H b (nv m)) (h : CDivW n m) : Is X σ H (.BinOp a .FloorDiv b pos) (nv (n / m)) := (divI ha hb h).to (by rw [← Int.natCast_ediv])
theorem shrI (ha : Is X σ H a (.int i)) (hb : Is X σ H b (nv m)) : Is X σ H (.BinOp a .RShift b pos) (.int (i / 2 ^ m)) := x_op op_shrN ha hb (rv_of fun H1 Q q => ⟨i, m, rfl, rfl, q⟩)
theorem shrN (ha : Is X σ H a (nv n)) (hb : Is X σ H b (nv m)) : Is X σ H (.BinOp a .RShift b pos) (nv (n / 2 ^ m)) := (shrI ha hb).to (by rw [← PySem.W.kbt_cast, ← Int.natCast_ediv])
theorem shlI (ha : Is X σ H a (.int i)) (hb : Is X σ H b (nv m)) (h : CShl i m) : Is X σ H (.BinOp a .LShift b pos) (.int (i * 2 ^ m)) := x_op op_shlN ha hb (rv_of fun H1 Q q => ⟨i, m, rfl, rfl, h, q⟩)
theorem shlN (ha : Is X σ H a (nv n)) (hb : Is X σ H b (nv m)) (h : CShl n m) : Is X σ H (.BinOp a .LShift b pos) (nv (n * 2 ^ m)) := (shlI ha hb h).to (by rw [← PySem.W.kbt_cast, ← Int.natCast_mul])
theorem oneShl (ha : Is X σ H a (nv 1)) (hb : Is X σ H b (nv m)) (h : m ≤ 1000) : Is X σ H (.BinOp a .LShift b pos) (nv (2 ^ m)) := (x_op op_oneShl ha hb (rv_of fun H1 Q q => ⟨m, rfl, rfl, by omega, q⟩)).to (by rw [← PySem.W.kbt_cast])
theorem andI (ha : Is X σ H a (.int i)) (hb : Is X σ H b (.int j)) : Is X σ H (.BinOp a .BitAnd b pos) (.int (Builtin.bitAnd i j)) := x_op op_and ha hb rv_I0
theorem orI (ha : Is X σ H a (.int i)) (hb : Is X σ H b (.int j)) : Is X σ H (.BinOp a .BitOr b pos) (.int (Builtin.bitOr i j)) := x_op op_or ha hb rv_I0
theorem xorI (ha : Is X σ H a (.int i)) (hb : Is X σ H b (.int j)) : Is X σ H (.BinOp a .BitXor b pos) (.int (Builtin.bitXor i j)) := x_op op_xor ha hb rv_I0
/-- & 1 -/
theorem oddI (ha : Is X σ H a (.int i)) (hb : Is X σ H b (.int 1)) : Is X σ H (.BinOp a .BitAnd b pos) (.int (i % 2)) := (andI ha hb).to (by rw [bitAnd_m1])
theorem oddN (ha : Is X σ H a (nv n)) (hb : Is X σ H b (.int 1)) : Is X σ H (.BinOp a .BitAnd b pos) (nv (n % 2)) := (oddI ha hb).to (congrArg V.int (Int.natCast_emod n 2).symm)

/-! ### comparisons -/
theorem x_cmp {op : CmpOp} {r : R2} (ho : OpR X (compareOp op) r) (ha : Is X σ H a x) (hb : Is X σ H b y) (hr : RV r x y H z) (hm : behindInMarks op b = false) : Is X σ H (.Compare a [op] [b] pos) z := is_of (pe_cmpR ho EW.pe EW.pe hm) (ev_op ha hb hr)
theorem eqI (ha : Is X σ H a (.int i)) (hb : Is X σ H b (.int j)) : Is X σ H (.Compare a [.Eq] [b] pos) (.bl (decide (i = j))) := (x_cmp op_eq ha hb (rv_eq rfl) (nomark _)).to (by rw [dec_int, Bool.beq_eq_decide_eq])
theorem neI (ha : Is X σ H a (.int i)) (hb : Is X σ H b (.int j)) : Is X σ H (.Compare a [.NotEq] [b] pos) (.bl (decide (i ≠ j))) := (x_cmp op_ne ha hb (rv_ne rfl) (nomark _)).to (by rw [dec_int, Bool.beq_eq_decide_eq, decide_not])
theorem ltI (ha : Is X σ H a (.int i)) (hb : Is X σ H b (.int j)) : Is X σ H (.Compare a [.Lt] [b] pos) (.bl (decide (i < j))) := x_cmp op_lt ha hb rv_I0 (nomark _)
theorem leI (ha : Is X σ H a (.int i)) (hb : Is X σ H b (.int j)) : Is X σ H (.Compare a [.LtE] [b] pos) (.bl (decide (i ≤ j))) := x_cmp op_le ha hb rv_I0 (nomark _)
theorem gtI (ha : Is X σ H a (.int i)) (hb : Is X σ H b (.int j)) : Is X σ H (.Compare a [.Gt] [b] pos) (.bl (decide (j < i))) := x_cmp op_gt ha hb rv_I0 (nomark _)
theorem geI (ha : Is X σ H a (.int i)) (hb : Is X σ H b (.int j)) : Is X σ H (.Compare a [.GtE] [b] pos) (.bl (decide (j ≤ i))) := x_cmp op_ge ha hb rv_I0 (nomark _)
theorem eqN (ha : Is X σ H a (nv n)) (hb : Is X σ H b (nv m)) : Is X σ H (.Compare a [.Eq] [b] pos) (.bl (decide (n = m))) := (eqI ha hb).to (by congr 1; exact decide_eq_decide.mpr (by omega))
theorem neN (ha : Is X σ H a (nv n)) (hb : Is X σ H b (nv m)) : Is X σ H (.Compare a [.NotEq] [b] pos) (.bl (decide (n ≠ m))) := (neI ha hb).to (by congr 1; exact decide_eq_decide.mpr (by omega))
theorem ltN (ha : Is X σ H a (nv n)) (hb : Is X σ H b (nv m)) : Is X σ H (.Compare a [.Lt] [b] pos) (.bl (decide (n < m))) := (ltI ha hb).to (by congr 1; exact decide_eq_decide.mpr (by omega))
theorem leN (ha : Is X σ H a (nv n)) (hb : Is X σ H b (nv m)) : Is X σ H (.Compare a [.LtE] [b] pos) (.bl (decide (n ≤ m))) := (leI ha hb).to (by congr 1; exact decide_eq_decide.mpr (by omega))
theorem gtN (ha : Is X σ H a (nv n)) (hb : Is X σ H b (nv m)) : Is X σ H (.Compare a [.Gt] [b] pos) (.bl (decide (m < n))) := (gtI ha hb).to (by congr 1; exact decide_eq_decide.mpr (by omega))
theorem geN (ha : Is X σ H a (nv n)) (hb : Is X σ H b (nv m)) : Is X σ H (.Compare a [.GtE] [b] pos) (.bl (decide (m ≤ n))) := (geI ha hb).to (by congr 1; exact decide_eq_decide.mpr (by omega))
theorem eqB {k l : Bool} (ha : Is X σ H a (.bl k)) (hb : Is X σ H b (.bl l)) : Is X σ H (.Compare a [.Eq] [b] pos) (.bl (k == l)) := (x_cmp op_eq ha hb (rv_eq rfl) (nomark _)).to (by rw [dec_bl])
theorem neB {k l : Bool} (ha : Is X σ H a (.bl k)) (hb : Is X σ H b (.bl l)) : Is X σ H (.Compare a [.NotEq] [b] pos) (.bl (k != l)) := (x_cmp op_ne ha hb (rv_ne rfl) (nomark _)).to (by rw [dec_bl] <;> rfl)
end
/-! ### and, or, not, if -/
theorem x_or {k l : Bool} {bs : List Expr} (ha : Is X σ H a (.bl k)) (hb : Is X σ H (.BoolOp .Or (b :: bs) pos) (.bl l)) : Is X σ H (.BoolOp .Or (a :: b :: bs) pos) (.bl (k || l)) := is_of (pe_or EW.pe EW.pe) (ev_orV ha fun _ => hb)
theorem x_and {k l : Bool} {bs : List Expr} (ha : Is X σ H a (.bl k)) (hb : Is X σ H (.BoolOp .And (b :: bs) pos) (.bl l)) : Is X σ H (.BoolOp .And (a :: b :: bs) pos) (.bl (k && l)) := is_of (pe_and EW.pe EW.pe) (ev_andV ha fun _ => hb)
theorem x_one {op : BoolOp} (ha : Is X σ H a v) : Is X σ H (.BoolOp op [a] pos) v := is_of (pe_one EW.pe) ha
theorem x_or2 {k l : Bool} (ha : Is X σ H a (.bl k)) (hb : Is X σ H b (.bl l)) : Is X σ H (.BoolOp .Or [a, b] pos) (.bl (k || l)) := x_or ha (x_one hb)
theorem x_and2 {k l : Bool} (ha : Is X σ H a (.bl k)) (hb : Is X σ H b (.bl l)) : Is X σ H (.BoolOp .And [a, b] pos) (.bl (k && l)) := x_and ha (x_one hb)
theorem x_not {k : Bool} (ha : Is X σ H a (.bl k)) : Is X σ H (.UnaryOp .Not a pos) (.bl (!k)) := is_of (pe_not EW.pe) (ev_notV ha)
theorem x_ifE {k : Bool} (hc : Tru X σ H c k) (h1 : k = true → Is X σ H a v) (h2 : k = false → Is X σ H b v) : Is X σ H (.IfExp c a b pos) v := is_of (pe_ifExp TW.pt EW.pe EW.pe) (ev_if hc h1 h2)
/-- a test: an expression that gives True or False -/
theorem t_val {k : Bool} (h : Is X σ H e (.bl k)) (he : ∀ whole, isTrue e X.env whole = (do let v ← whole; standAt e.pos; holding [v] (truthy v)) := by intro _; rfl) : Tru X σ H e k := fun H1 e1 Q q => ⟨_, pt_val EW.pe he, et_B h H1 e1 Q q⟩
theorem t_cmpR {k : Bool} {op : CmpOp} {r : R2} (ho : OpR X (compareOp op) r) (ha : Is X σ H a x) (hb : Is X σ H b y) (hr : RV r x y H (.bl k)) (hm : behindInMarks op b = false) : Tru X σ H (.Compare a [op] [b] pos) k := fun H1 e1 Q q => ⟨_, pt_cmpR ho EW.pe EW.pe hm, et_test (ev_op ha hb hr) H1 e1 Q q⟩
theorem teqN {n m : Nat} (ha : Is X σ H a (nv n)) (hb : Is X σ H b (nv m)) : Tru X σ H (.Compare a [.Eq] [b] pos) (decide (n = m)) := (t_cmpR op_eq ha hb (rv_eq rfl) (nomark _)).to (by rw [dec_int, Bool.beq_eq_decide_eq]; exact decide_eq_decide.mpr (by omega))
theorem tltN {n m : Nat} (ha : Is X σ H a (nv n)) (hb : Is X σ H b (nv m)) : Tru X σ H (.Compare a [.Lt] [b] pos) (decide (n < m)) := (t_cmpR (k := decide ((n : Int) < (m : Int))) op_lt ha hb rv_I0 (nomark _)).to (decide_eq_decide.mpr (by omega))
theorem tgtN {n m : Nat} (ha : Is X σ H a (nv n)) (hb : Is X σ H b (nv m)) : Tru X σ H (.Compare a [.Gt] [b] pos) (decide (m < n)) := (t_cmpR (k := decide ((m : Int) < (n : Int))) op_gt ha hb rv_I0 (nomark _)).to (decide_eq_decide.mpr (by omega))
theorem tgeN {n m : Nat} (ha : Is X σ H a (nv n)) (hb : Is X σ H b (nv m)) : Tru X σ H (.Compare a [.GtE] [b] pos) (decide (m ≤ n)) := (t_cmpR (k := decide ((m : Int) ≤ (n : Int))) op_ge ha hb rv_I0 (nomark _)).to (decide_eq_decide.mpr (by omega))
theorem tneB {k l : Bool} (ha : Is X σ H a (.bl k)) (hb : Is X σ H b (.bl l)) : Tru X σ H (.Compare a [.NotEq] [b] pos) (k != l) := (t_cmpR op_ne ha hb (rv_ne rfl) (nomark _)).to (by rw [dec_bl] <;> rfl)
theorem t_or {k l : Bool} {bs : List Expr} (ha : Tru X σ H a k) (hb : k = false → Brn X σ H (.BoolOp .Or (b :: bs) pos) l) : Brn X σ H (.BoolOp .Or (a :: b :: bs) pos) (k || l) := fun H1 e1 Q q => ⟨_, pw_or TW.pt BW.pw, et_or ha hb H1 e1 Q q⟩
theorem t_or1 {k : Bool} (ha : Tru X σ H a k) : Brn X σ H (.BoolOp .Or [a] pos) k := fun H1 e1 Q q => ⟨_, pw_or1 TW.pt, ha H1 e1 Q q⟩
theorem t_or2 {k l : Bool} (ha : Tru X σ H a k) (hb : k = false → Tru X σ H b l) : Tru X σ H (.BoolOp .Or [a, b] pos) (k || l) := fun H1 e1 Q q => ⟨_, PW.pt BW.pw, t_or (bs := []) ha (fun hk => t_or1 (hb hk)) H1 e1 Q q⟩
theorem t_not {k : Bool} (ha : Tru X σ H a k) : Tru X σ H (.UnaryOp .Not a pos) (!k) := fun H1 e1 Q q => ⟨_, pt_not TW.pt, et_not ha H1 e1 Q q⟩

/-! ### arguments -/
theorem a0 : As X σ H [] [] := fun H1 e1 Q q => ⟨_, pa_nil, ea_nil H1 e1 Q q⟩
theorem ac (ha : Is X σ H e v) (hr : As X σ H es vs) (hs : starEach (e :: es) X.env = (false, eval e X.env) :: starEach es X.env := by rfl) : As X σ H (e :: es) (v :: vs) := fun H1 e1 Q q => ⟨_, pa_cons EW.pe AW.pa hs, ea_cons ha hr H1 e1 Q q⟩
theorem ag (ha : Gets X σ H e P) (hm : ∀ v H1 H2, Ex H1 H2 → P v H1 → P v H2) (hr : AGets X σ H es R) (hs : starEach (e :: es) X.env = (false, eval e X.env) :: starEach es X.env := by rfl) :
    AGets X σ H (e :: es) (fun vs H => ∃ v r, vs = v :: r ∧ P v H ∧ R r H) := fun H1 e1 Q q => ⟨_, pa_cons EW.pe AW.pa hs, ha H1 e1 _ fun v H2 e2 hp => hr H2 (e1.trans e2) _ fun r H3 e3 hq => q (v :: r) H3 (e2.trans e3) ⟨v, r, rfl, hm v H2 H3 e3 hp, hq⟩⟩
theorem a1 (ha : Is X σ H e v) (hs : starEach [e] X.env = (false, eval e X.env) :: starEach [] X.env := by rfl) : As X σ H [e] [v] := ac ha a0 hs

/-! ### fields of an instance -/
theorem x_fld {q C dx : Addr} {fs : List (Str × V)} {f : Str} (ha : Is X σ H o (.ref q)) (hH : H q = some (.ins C dx fs)) (hc : Cls X.K C) (hn : NoAttr X.K C f) (hl : fs.lookup f = some v) (hb : attributeBase o f X.env (eval o X.env) = eval o X.env := by rfl) :
    Is X σ H (.Attribute o f pos) v := is_of (pe_fld EW.pe hb) fun H1 e1 Q q => ha H1 e1 _ fun H2 e2 => ⟨_, C, dx, fs, v, rfl, (e1.trans e2) _ _ hH, hc, hn, hl, q H2 e2⟩
end

/-! ### promises -/
/-- called so, while so it stands: hands back what post tells of; all that stood stands -/
def Pr {ι : Type} (args : ι → List V) (pre : ι → Hp → Prop) (post : ι → V → Hp → Prop) : Sp := fun vs H Q _ => ∃ i, vs = args i ∧ pre i H ∧ ∀ v H2, Ex H H2 → post i v H2 → Q v H2
/-- .. hands back one value -/
def Pv {ι : Type} (args : ι → List V) (pre : ι → Hp → Prop) (val : ι → V) : Sp := fun vs H Q _ => ∃ i, vs = args i ∧ pre i H ∧ ∀ H2, Ex H H2 → Q (val i) H2
/-- the def that the module's name n stands for keeps sp -/
structure Has (P : Program) (w : World) (K : PySem.W.Frag) (mg : Str → Option Value) (base : Heap) (k : Nat) (n : Str) (ps : List Str) (sp : Sp) : Prop where
  fn : ∃ fd, FnOk P w K mg base CX0 k (He.ga K n) fd ps sp ∧ Binds K fd ps []
  kp : PySem.W.keepIn K (.ref (He.ga K n)) = true
  gl : mg n = some (.ref (He.ga K n))
/-- the same of a method m of the class n -/
structure HasM (P : Program) (w : World) (K : PySem.W.Frag) (mg : Str → Option Value) (base : Heap) (k : Nat) (n m : Str) (ps : List Str) (sp : Sp) : Prop where
  fn : ∃ fd, FnOk P w K mg base CX0 k (He.ma K (He.ga K n) m) fd ps sp ∧ Binds K fd ps []
  me : Meth K (He.ga K n) m (He.ma K (He.ga K n) m)

section
variable {X : Cx} {σ : St} {H H' : Hp} {e a b c o : Expr} {es : List Expr} {v x y z : V} {vs : List V} {P P' : V → Hp → Prop} {R R' : List V → Hp → Prop} {pos p p' apos : Pos} {D : Ends} {rest : List Stmt}
/-- f(e, ..) -/
theorem x_call {k : Nat} {n : Str} {ps : List Str} {sp : Sp} (F : Has X.prog X.w X.K X.mg X.base k n ps sp) (hr : Room k X.A) (ha : AGets X σ H (e :: es) R) (h : ∀ vs H1, Ex H H1 → R vs H1 → ∀ Q : VK, (∀ v H2, Ex H1 H2 → P v H2 → Q v H2) → sp vs H1 Q E0)
    (hg : Gl X n := by rfl) (hdb : (n == ("__debug__" : Str)) = false := by decide) (he : starEach (e :: es) X.env = (false, eval e X.env) :: starEach es X.env := by rfl) (hpl : (backTo pos (starEach es X.env)).any (·.1) = false := by rfl) :
    Gets X σ H (.Call (.Name n p) (e :: es) [] pos) P := fun H1 e1 Q q => by
  obtain ⟨fd, F1, hb⟩ := F.fn
  refine ⟨_, pe_call (dvs := []) F1 hr hg F.gl F.kp hb .nil pass0 AW.pa hdb he hpl, ha H1 e1 _ fun vs H2 e2 hv => ?_⟩
  rw [List.append_nil]
  exact h vs H2 (e1.trans e2) hv Q fun v H3 e3 hp => q v H3 (e2.trans e3) hp
theorem x_pr {ι : Type} {args : ι → List V} {pre : ι → Hp → Prop} {post : ι → V → Hp → Prop} {k : Nat} {n : Str} {ps : List Str} (F : Has X.prog X.w X.K X.mg X.base k n ps (Pr args pre post)) (hr : Room k X.A) (i : ι) (ha : As X σ H (e :: es) (args i)) (hp : ∀ H1, Ex H H1 → pre i H1)
    (hg : Gl X n := by rfl) (hdb : (n == ("__debug__" : Str)) = false := by decide) (he : starEach (e :: es) X.env = (false, eval e X.env) :: starEach es X.env := by rfl) (hpl : (backTo pos (starEach es X.env)).any (·.1) = false := by rfl) :
    Gets X σ H (.Call (.Name n p) (e :: es) [] pos) (post i) := x_call F hr ha.gets (fun vs H1 e1 hv Q q => ⟨i, hv, hp H1 e1, q⟩) hg hdb he hpl
theorem x_pv {ι : Type} {args : ι → List V} {pre : ι → Hp → Prop} {val : ι → V} {k : Nat} {n : Str} {ps : List Str} (F : Has X.prog X.w X.K X.mg X.base k n ps (Pv args pre val)) (hr : Room k X.A) (i : ι) (ha : As X σ H (e :: es) (args i)) (hp : ∀ H1, Ex H H1 → pre i H1)
    (hg : Gl X n := by rfl) (hdb : (n == ("__debug__" : Str)) = false := by decide) (he : starEach (e :: es) X.env = (false, eval e X.env) :: starEach es X.env := by rfl) (hpl : (backTo pos (starEach es X.env)).any (·.1) = false := by rfl) :
    Is X σ H (.Call (.Name n p) (e :: es) [] pos) (val i) := Gets.is (x_call F hr ha.gets (fun vs H1 e1 hv Q q => ⟨i, hv, hp H1 e1, fun H2 e2 => q _ H2 e2 rfl⟩) hg hdb he hpl)
/-- o.m(e, ..) -/
theorem x_meth {pl : Sem Bool} {k : Nat} {n m : Str} {ps : List Str} {sp : Sp} {q dx : Addr} {fs : List (Str × V)} (F : HasM X.prog X.w X.K X.mg X.base k n m ps sp) (hr : Room k X.A) (ho : Is X σ H o (.ref q)) (hH : H q = some (.ins (He.ga X.K n) dx fs)) (hc : Cls X.K (He.ga X.K n)) (hl : fs.lookup m = none)
    (ha : As X σ H (e :: es) vs) (h : ∀ H1, Ex H H1 → ∀ Q : VK, (∀ v H2, Ex H1 H2 → P v H2 → Q v H2) → sp (.ref q :: vs) H1 Q E0)
    (hst : starEach (e :: es) X.env = (false, eval e X.env) :: starEach es X.env := by rfl) (hpl : (backTo pos (starEach es X.env)).any (·.1) = false := by rfl)
    (ht : eval (.Call (.Attribute o m apos) (e :: es) [] pos) X.env = (do
      let ov ← eval o X.env
      standAt apos.atName
      let (f, first) ← holding [ov] (getMethod ov m pl)
      callWith pos f first (backTo pos (starEach (e :: es) X.env)) (backToKw pos (keywordEach [] X.env))) := by rfl) :
    Gets X σ H (.Call (.Attribute o m apos) (e :: es) [] pos) P := fun H1 e1 Q k1 => by
  obtain ⟨fd, F1, hb⟩ := F.fn
  refine ⟨_, pe_meth (pl := pl) (dvs := []) EW.pe hc F.me F1 hr hb .nil pass0 AW.pa hst hpl ht, ho H1 e1 _ fun H2 e2 => ⟨q, dx, fs, rfl, (e1.trans e2) _ _ hH, hl, ha H2 (e1.trans e2) _ fun H3 e3 => ?_⟩⟩
  rw [List.append_nil]
  exact h H3 ((e1.trans e2).trans e3) Q fun v H4 e4 hp => k1 v H4 ((e2.trans e3).trans e4) hp
/-- o.m() -/
theorem x_meth0 {pl : Sem Bool} {k : Nat} {n m : Str} {ps : List Str} {sp : Sp} {q dx : Addr} {fs : List (Str × V)} (F : HasM X.prog X.w X.K X.mg X.base k n m ps sp) (hr : Room k X.A) (ho : Is X σ H o (.ref q)) (hH : H q = some (.ins (He.ga X.K n) dx fs)) (hc : Cls X.K (He.ga X.K n)) (hl : fs.lookup m = none)
    (h : ∀ H1, Ex H H1 → ∀ Q : VK, (∀ v H2, Ex H1 H2 → P v H2 → Q v H2) → sp [.ref q] H1 Q E0)
    (ht : eval (.Call (.Attribute o m apos) [] [] pos) X.env = (do
      let ov ← eval o X.env
      standAt apos.atName
      let (f, first) ← holding [ov] (getMethod ov m pl)
      callWith pos f first (backTo pos (starEach [] X.env)) (backToKw pos (keywordEach [] X.env))) := by rfl) :
    Gets X σ H (.Call (.Attribute o m apos) [] [] pos) P := fun H1 e1 Q k1 => by
  obtain ⟨fd, F1, hb⟩ := F.fn
  exact ⟨_, pe_meth0 (pl := pl) (dvs := []) EW.pe hc F.me F1 hr hb .nil pass0 ht, ho H1 e1 _ fun H2 e2 => ⟨q, dx, fs, rfl, (e1.trans e2) _ _ hH, hl, h H2 (e1.trans e2) Q fun v H4 e4 hp => k1 v H4 (e2.trans e4) hp⟩⟩
/-- a built-in of one argument, by its rule -/
theorem x_callB {id : String} {r : List V → Hp → VK → Prop} {n : Str} (hc : CallR X (.builtin id) r) (hm : X.mg n = none) (hv : bootBuiltins n = some (.builtin id)) (ha : As X σ H (e :: es) vs) (h : ∀ H1, Ex H H1 → ∀ Q : VK, (∀ v H2, Ex H1 H2 → P v H2 → Q v H2) → r vs H1 Q)
    (hg : Gl X n := by rfl) (hn : n ≠ "__name__" := by decide) (hdb : (n == ("__debug__" : Str)) = false := by decide) (he : starEach (e :: es) X.env = (false, eval e X.env) :: starEach es X.env := by rfl) (hpl : (backTo pos (starEach es X.env)).any (·.1) = false := by rfl) :
    Gets X σ H (.Call (.Name n p) (e :: es) [] pos) P := fun H1 e1 Q q => ⟨_, pe_callB hc hg hm hv AW.pa hn hdb he hpl, ha H1 e1 _ fun H2 e2 => h H2 (e1.trans e2) Q fun v H3 e3 hp => q v H3 (e2.trans e3) hp⟩
theorem x_callTy {T : String} {r : List V → Hp → VK → Prop} {n : Str} (hc : CallR X (.type T) r) (hm : X.mg n = none) (hv : bootBuiltins n = some (.type T)) (ha : As X σ H (e :: es) vs) (h : ∀ H1, Ex H H1 → ∀ Q : VK, (∀ v H2, Ex H1 H2 → P v H2 → Q v H2) → r vs H1 Q)
    (hg : Gl X n := by rfl) (hn : n ≠ "__name__" := by decide) (hdb : (n == ("__debug__" : Str)) = false := by decide) (he : starEach (e :: es) X.env = (false, eval e X.env) :: starEach es X.env := by rfl) (hpl : (backTo pos (starEach es X.env)).any (·.1) = false := by rfl) :
    Gets X σ H (.Call (.Name n p) (e :: es) [] pos) P := fun H1 e1 Q q => ⟨_, pe_callTy hc hg hm hv AW.pa hn hdb he hpl, ha H1 e1 _ fun H2 e2 => h H2 (e1.trans e2) Q fun v H3 e3 hp => q v H3 (e2.trans e3) hp⟩
/-- int(a truth) -/
theorem x_intB {k : Bool} (hm : X.mg "int" = none) (ha : Is X σ H e (.bl k)) (hg : Gl X "int" := by rfl) (hs : starEach [e] X.env = (false, eval e X.env) :: starEach [] X.env := by rfl) (hpl : (backTo pos (starEach [] X.env)).any (·.1) = false := by rfl) :
    Is X σ H (.Call (.Name "int" p) [e] [] pos) (nv (if k = true then 1 else 0)) :=
  Gets.is (x_callTy call_int1 hm (by decide +kernel) (a1 ha hs) (fun H1 _ Q q => .inr ⟨k, rfl, by
    have z := q (nv (if k = true then 1 else 0)) H1 (Ex.refl _) rfl
    cases k <;> exact z⟩) hg (by decide) (by decide) hs hpl)
/-- abs(a number) -/
theorem x_abs {i : Int} (hm : X.mg "abs" = none) (ha : Is X σ H e (.int i)) (hg : Gl X "abs" := by rfl) (hs : starEach [e] X.env = (false, eval e X.env) :: starEach [] X.env := by rfl) (hpl : (backTo pos (starEach [] X.env)).any (·.1) = false := by rfl) :
    Is X σ H (.Call (.Name "abs" p) [e] [] pos) (nv i.natAbs) :=
  Gets.is (x_callB call_abs hm (by decide +kernel) (a1 ha hs) (fun H1 _ Q q => ⟨i, rfl, by
    have z := q (nv i.natAbs) H1 (Ex.refl _) rfl
    have k : (if i < 0 then -i else i) = ((i.natAbs : Nat) : Int) := by split <;> omega
    rw [k]
    exact z⟩) hg (by decide) (by decide) hs hpl)

/-! ### displays -/
theorem x_tup (ha : AGets X σ H es R) (hl : ∀ vs H1, R vs H1 → vs.length ≤ 1000) : ∀ {ct}, Gets X σ H (.Tuple es ct pos) (fun v H => ∃ q vs Hq, v = .ref q ∧ H q = some (.tup vs) ∧ Ex Hq H ∧ R vs Hq) := fun {ct} H1 e1 Q q =>
  ⟨_, pe_tup AW.pa, ha H1 e1 _ fun vs H2 e2 hv => ⟨Nat.le_trans (hl vs H2 hv) (by decide), fun w hw => q _ _ (e2.trans (Ex.new hw)) ⟨w, vs, H2, rfl, upd_same, Ex.new hw, hv⟩⟩⟩
theorem x_lst (ha : AGets X σ H es R) (hl : ∀ vs H1, R vs H1 → vs.length ≤ 1000) : Gets X σ H (.List es pos) (fun v H => ∃ q vs Hq, v = .ref q ∧ H q = some (.lst vs) ∧ Ex Hq H ∧ R vs Hq) := fun H1 e1 Q q =>
  ⟨_, pe_lst AW.pa, ha H1 e1 _ fun vs H2 e2 hv => ⟨Nat.le_trans (hl vs H2 hv) (by decide), fun w hw => q _ _ (e2.trans (Ex.new hw)) ⟨w, vs, H2, rfl, upd_same, Ex.new hw, hv⟩⟩⟩

/-! ### statements -/
theorem r_nil (h : ∀ H1, Ex H H1 → D.nx σ H1) : Runs X H [] D σ := fun H1 e1 => ⟨_, pss_nil, h H1 e1⟩
theorem r_set (i : Nat) {n : Str} (he : Is X σ H e v) (k : Runs X H rest D (σ.set i (some v))) (hN : X.N.Nodup) (hi : X.N[i]? = some n := by rfl) (hx : Loc X.env.scope n := by first | exact Or.inl rfl | exact Or.inr rfl) (hs : swapsWith e (some (.Name n p')) pos.line X.env = pure false := by rfl)
    (hf : X.fn n = true ∨ X.env.scope.names.lookup n = some .local := by first | exact .inl rfl | exact .inr rfl) : Runs X H (.Assign [.Name n p'] e pos :: rest) D σ := fun H1 e1 => ⟨_, pss_cons (ps_set hN hi hx EW.pe hs hf) SW.pss, he H1 e1 _ fun H2 e2 => k H2 (e1.trans e2)⟩
theorem r_setG (i : Nat) {n : Str} (he : Gets X σ H e P) (k : ∀ v H1, Ex H H1 → P v H1 → Runs X H1 rest D (σ.set i (some v))) (hN : X.N.Nodup) (hi : X.N[i]? = some n := by rfl) (hx : Loc X.env.scope n := by first | exact Or.inl rfl | exact Or.inr rfl) (hs : swapsWith e (some (.Name n p')) pos.line X.env = pure false := by rfl)
    (hf : X.fn n = true ∨ X.env.scope.names.lookup n = some .local := by first | exact .inl rfl | exact .inr rfl) : Runs X H (.Assign [.Name n p'] e pos :: rest) D σ := fun H1 e1 => ⟨_, pss_cons (ps_set hN hi hx EW.pe hs hf) SW.pss, he H1 e1 _ fun v H2 e2 hp => k v H2 (e1.trans e2) hp H2 (Ex.refl _)⟩
theorem r_ret (he : Gets X σ H e P) (k : ∀ v H1, Ex H H1 → P v H1 → D.rt v H1) : Runs X H [.Return (some e) pos] D σ := fun H1 e1 => ⟨_, pss_one (ps_ret EW.pe), he H1 e1 _ fun v H2 e2 hp => k v H2 (e1.trans e2) hp⟩
theorem r_retV (he : Is X σ H e v) (k : ∀ H1, Ex H H1 → D.rt v H1) : Runs X H [.Return (some e) pos] D σ := fun H1 e1 => ⟨_, pss_one (ps_ret EW.pe), he H1 e1 _ fun H2 e2 => k H2 (e1.trans e2)⟩
theorem r_if {k : Bool} {b1 b2 : List Stmt} (hc : Tru X σ H c k) (h1 : k = true → Runs X H b1 { D with nx := SW X rest D } σ) (h2 : k = false → Runs X H b2 { D with nx := SW X rest D } σ) : Runs X H (.If c b1 b2 pos :: rest) D σ := fun H1 e1 =>
  ⟨_, pss_cons (ps_if TW.pt SW.pss SW.pss) SW.pss, hc H1 e1 _ fun H2 e2 => by
    cases k with
    | true =>
      rw [if_pos rfl]
      exact h1 rfl H2 (e1.trans e2)
    | false =>
      rw [if_neg Bool.false_ne_true]
      exact h2 rfl H2 (e1.trans e2)⟩
/-- an if that ends by a return, without else -/
theorem r_when {k : Bool} {b1 : List Stmt} (hc : Tru X σ H c k) (h1 : k = true → Runs X H b1 { D with nx := SW X rest D } σ) (h2 : k = false → Runs X H rest D σ) : Runs X H (.If c b1 [] pos :: rest) D σ := r_if hc h1 fun hk => r_nil fun H1 e1 => h2 hk H1 e1
/-- a loop over a tuple, its state told by the turn -/
theorem r_forT (j : Nat) {n : Str} {q : Addr} {xs : List V} {body : List Stmt} (I : Nat → St → Prop) (he : Is X σ H e (.ref q)) (hx : SqT X.K H q xs) (hp : PassesOwn (model X.prog X.w) X.A X.env X.xe) (hN : X.N.Nodup) (h0 : I 0 σ)
    (hs : ∀ i x σ' H1, Ex H H1 → xs[i]? = some x → I i σ' → ∀ D' : Ends, (∀ σ'' H2, I (i + 1) σ'' → Ex H1 H2 → D'.nx σ'' H2) → Runs X H1 body D' (σ'.set j (some x))) (k : ∀ σ' H1, Ex H H1 → I xs.length σ' → Runs X H1 rest D σ')
    (hi : X.N[j]? = some n := by rfl) (hl : Loc X.env.scope n := by first | exact Or.inl rfl | exact Or.inr rfl) (hc : X.calm = true := by rfl) (hf : X.fn n = true ∨ X.env.scope.names.lookup n = some .local := by first | exact .inl rfl | exact .inr rfl)
    (hfs : ∀ x, foldedSetIterable e X.env x = pure x := by intro _; rfl) : Runs X H (.For (.Name n p) e body [] pos :: rest) D σ := fun H1 e1 =>
  ⟨_, pss_cons (ps_for hp hc (pi_tup EW.pe) (pg_name hN hi hl hf) SW.pss hfs) SW.pss, he H1 e1 _ fun H2 e2 => ⟨q, rfl, ⟨xs, ex_t (e1.trans e2) hx⟩,
    for_tup (K := X.K) (a := q) (xs := xs) (fun i σ' H' => I i σ' ∧ Ex H H') ⟨h0, e1.trans e2⟩ (fun i σ' H' _ ⟨_, ee⟩ => ex_t ee hx)
      (fun i x σ' H' hx' ⟨hI, ee⟩ => by
        refine hs i x σ' H' ee hx' hI _ ?_ H' (Ex.refl _)
        exact fun σ'' H2 hI2 e3 => ⟨hI2, ee.trans e3⟩)
      (fun σ' H' ⟨hI, ee⟩ => k σ' H' ee hI H' (Ex.refl _))⟩⟩
/-- the block runs as another: the syntax is the same -/
theorem Runs.sw (h : Runs X H rest D σ) : SW X rest D σ H := h H (Ex.refl H)
end

/-! ### a def of the top -/
section
variable {P : Program} {w : World} {K : PySem.W.Frag} {mg : Str → Option Value} {base : Heap}
/-- THE RULE: what the def d keeps, by its body -/
theorem has_of (d : He.DefD) {n : Str} {N ps : List Str} {k : Nat} {sp : Sp} (hF : ∃ fd, FunD K d.name d.qual d.params d.body d.scope (d.dvs K) (d.kws K) (He.fAd K d.at_) fd) (hg : mg n = some (.ref (He.ga K n))) (S : FnScope N ps d.scope)
    (hb : ∀ (kV doc pm : Value) (an : Option Addr) (cdv ct : Value) (us : List Value), us.length = ps.length → bindArgs (PySem.W.fnOf d.name d.qual d.params d.body d.scope .none kV doc pm an cdv ct) ⟨us, []⟩ = pure (ps.zip us)) (len : ∀ vs H Q E, sp vs H Q E → vs.length = ps.length)
    (body : ∀ (cdv : Value) (A : Around) (outer : List Env) (s : Shared) (H : Hp) (vs : List V) (Q : VK) (E : XK), Room k (A.deeper (envOfC d.qual d.scope s.heap.objs.size (He.ga K n) cdv)) → sp vs H Q E →
      Runs (cxOf CX0 P w K mg base N d.qual d.scope (He.ga K n) cdv A outer s H E).nox H d.body { nx := fun _ H' => Q .non H', rt := Q } (start N vs))
    (ha : d.at_ = (n, none) := by rfl) (hd0 : d.dfl = [] := by rfl) (hk0 : d.kwd = [] := by rfl) : Has P w K mg base (k + 1) n ps sp := by
  obtain ⟨fd, F⟩ := hF
  have e1 : d.dvs K = [] := by unfold He.DefD.dvs; rw [hd0] <;> rfl
  have e2 : d.kws K = [] := by unfold He.DefD.kws; rw [hk0] <;> rfl
  have e3 : He.fAd K d.at_ = He.ga K n := by rw [ha] <;> rfl
  rw [e1, e2, e3] at F
  exact ⟨⟨fd, F.ok S len (fun cdv A outer s H vs Q E hr h => (body cdv A outer s H vs Q E hr h).sw.nox), F.bindsN hb⟩, F.kp, hg⟩
/-- of the row's own def: for every base -/
theorem law_of (d : He.DefD) {n : Str} {N ps : List Str} {k : Nat} {sp : Sp} (hF : ∃ fd, FunD K d.name d.qual d.params d.body d.scope (d.dvs K) (d.kws K) (He.fAd K d.at_) fd) (S : FnScope N ps d.scope)
    (hb : ∀ (kV doc pm : Value) (an : Option Addr) (cdv ct : Value) (us : List Value), us.length = ps.length → bindArgs (PySem.W.fnOf d.name d.qual d.params d.body d.scope .none kV doc pm an cdv ct) ⟨us, []⟩ = pure (ps.zip us)) (len : ∀ vs H Q E, sp vs H Q E → vs.length = ps.length)
    (body : ∀ (base : Heap) (cdv : Value) (A : Around) (outer : List Env) (s : Shared) (H : Hp) (vs : List V) (Q : VK) (E : XK), Room k (A.deeper (envOfC d.qual d.scope s.heap.objs.size (He.ga K n) cdv)) → sp vs H Q E →
      Runs (cxOf CX0 P w K mg base N d.qual d.scope (He.ga K n) cdv A outer s H E).nox H d.body { nx := fun _ H' => Q .non H', rt := Q } (start N vs))
    (ha : d.at_ = (n, none) := by rfl) (hd0 : d.dfl = [] := by rfl) (hk0 : d.kwd = [] := by rfl) :
    ∃ fd, (∀ (s : Shared) (us : List Value), us.length = ps.length → BindsTo s fd ⟨us, []⟩ (ps.zip us)) ∧ ∀ base : Heap, FnOk P w K mg base CX0 (k + 1) (He.ga K n) fd ps sp := by
  obtain ⟨fd, F⟩ := hF
  have e1 : d.dvs K = [] := by unfold He.DefD.dvs; rw [hd0] <;> rfl
  have e2 : d.kws K = [] := by unfold He.DefD.kws; rw [hk0] <;> rfl
  have e3 : He.fAd K d.at_ = He.ga K n := by rw [ha] <;> rfl
  rw [e1, e2, e3] at F
  exact ⟨fd, F.bindsA hb, fun base => F.ok S len (fun cdv A outer s H vs Q E hr h => (body base cdv A outer s H vs Q E hr h).sw.nox)⟩
/-- the same of a method -/
theorem hasM_of (d : He.DefD) {n m : Str} {N ps : List Str} {k : Nat} {sp : Sp} (hF : ∃ fd, FunD K d.name d.qual d.params d.body d.scope (d.dvs K) (d.kws K) (He.fAd K d.at_) fd) (hm : Meth K (He.ga K n) m (He.ma K (He.ga K n) m)) (S : FnScope N ps d.scope)
    (hb : ∀ (kV doc pm : Value) (an : Option Addr) (cdv ct : Value) (us : List Value), us.length = ps.length → bindArgs (PySem.W.fnOf d.name d.qual d.params d.body d.scope .none kV doc pm an cdv ct) ⟨us, []⟩ = pure (ps.zip us)) (len : ∀ vs H Q E, sp vs H Q E → vs.length = ps.length)
    (body : ∀ (cdv : Value) (A : Around) (outer : List Env) (s : Shared) (H : Hp) (vs : List V) (Q : VK) (E : XK), Room k (A.deeper (envOfC d.qual d.scope s.heap.objs.size (He.ma K (He.ga K n) m) cdv)) → sp vs H Q E →
      Runs (cxOf CX0 P w K mg base N d.qual d.scope (He.ma K (He.ga K n) m) cdv A outer s H E).nox H d.body { nx := fun _ H' => Q .non H', rt := Q } (start N vs))
    (ha : d.at_ = (n, some m) := by rfl) (hd0 : d.dfl = [] := by rfl) (hk0 : d.kwd = [] := by rfl) : HasM P w K mg base (k + 1) n m ps sp := by
  obtain ⟨fd, F⟩ := hF
  have e1 : d.dvs K = [] := by unfold He.DefD.dvs; rw [hd0] <;> rfl
  have e2 : d.kws K = [] := by unfold He.DefD.kws; rw [hk0] <;> rfl
  have e3 : He.fAd K d.at_ = He.ma K (He.ga K n) m := by rw [ha] <;> rfl
  rw [e1, e2, e3] at F
  exact ⟨⟨fd, F.ok S len (fun cdv A outer s H vs Q E hr h => (body cdv A outer s H vs Q E hr h).sw.nox), F.bindsN hb⟩, hm⟩
end
end Fw
/-! FwLayer2: lists of flags, loops over them, comprehensions, subscripts, in. -/
namespace Fw
open PySem PySem.Spec PyProof.Rows L2 Evl
/-! ### flags: a tuple (place, truth); a list of such -/
abbrev Giv := Nat × Bool
def Flg (H : Hp) (t : V) (g : Giv) : Prop := ∃ a, t = .ref a ∧ H a = some (.tup [nv g.1, .bl g.2])
/-- at p stands a list of the flags l -/
def FlAt (l : List Giv) (p : Addr) (H : Hp) : Prop := ∃ ts, H p = some (.lst ts) ∧ Paired (Flg H) ts l
/-- v is a list of the flags l -/
def GL (l : List Giv) (v : V) (H : Hp) : Prop := ∃ p, v = .ref p ∧ FlAt l p H
/-- v is (lo, hi, flags) -/
def Res (lo hi : Nat) (l : List Giv) (v : V) (H : Hp) : Prop := ∃ p q, v = .ref p ∧ H p = some (.tup [nv lo, nv hi, .ref q]) ∧ FlAt l q H
/-- v is (lo, flags) -/
def Duo (lo : Nat) (l : List Giv) (v : V) (H : Hp) : Prop := ∃ p q, v = .ref p ∧ H p = some (.tup [nv lo, .ref q]) ∧ FlAt l q H
theorem Flg.mono {H H' : Hp} {t : V} {g : Giv} (e : Ex H H') (h : Flg H t g) : Flg H' t g := by
  obtain ⟨a, rfl, h⟩ := h
  exact ⟨a, rfl, e _ _ h⟩
theorem FlAt.mono {H H' : Hp} {l : List Giv} {p : Addr} (e : Ex H H') (h : FlAt l p H) : FlAt l p H' := by
  obtain ⟨ts, h1, h2⟩ := h
  exact ⟨ts, e _ _ h1, Paired.mapP h2 fun _ _ x => x.mono e⟩
theorem GL.mono {l : List Giv} {v : V} {H H' : Hp} (e : Ex H H') (h : GL l v H) : GL l v H' := by
  obtain ⟨p, rfl, h⟩ := h
  exact ⟨p, rfl, h.mono e⟩
theorem Res.mono {lo hi : Nat} {l : List Giv} {v : V} {H H' : Hp} (e : Ex H H') (h : Res lo hi l v H) : Res lo hi l v H' := by
  obtain ⟨p, q, rfl, h1, h2⟩ := h
  exact ⟨p, q, rfl, e _ _ h1, h2.mono e⟩
/-- tuples stay -/
def Tx (H H' : Hp) : Prop := ∀ a xs, H a = some (.tup xs) → H' a = some (.tup xs)
theorem Tx.of {H H' : Hp} (e : Ex H H') : Tx H H' := fun a xs h => e a _ h
theorem Flg.tx {H H' : Hp} {t : V} {g : Giv} (e : Tx H H') (h : Flg H t g) : Flg H' t g := by
  obtain ⟨a, rfl, h⟩ := h
  exact ⟨a, rfl, e _ _ h⟩
theorem paired_len {α β : Type} {F : α → β → Prop} : ∀ {l : List α} {m : List β}, Paired F l m → l.length = m.length
  | _, _, .nil => rfl
  | _, _, .cons _ t => congrArg (· + 1) (paired_len t)
theorem paired_get {α β : Type} {F : α → β → Prop} : ∀ {l : List α} {m : List β} {i : Nat} {x : α}, Paired F l m → l[i]? = some x → ∃ y, m[i]? = some y ∧ F x y
  | _, _, _, _, .nil, h => by simp at h
  | _, _, 0, _, .cons r _, h => by
    simp at h
    subst h
    exact ⟨_, rfl, r⟩
  | _, _, i + 1, _, .cons _ t, h => by
    obtain ⟨y, h1, h2⟩ := paired_get (i := i) t (by simpa using h)
    exact ⟨y, by simpa using h1, h2⟩
theorem paired_app {α β : Type} {F : α → β → Prop} : ∀ {l l' : List α} {m m' : List β}, Paired F l m → Paired F l' m' → Paired F (l ++ l') (m ++ m')
  | _, _, _, _, .nil, h => h
  | _, _, _, _, .cons r t, h => .cons r (paired_app t h)
theorem paired_one {α β : Type} {F : α → β → Prop} {x : α} {y : β} (h : F x y) : Paired F [x] [y] := .cons h .nil
theorem take_more {α : Type} : ∀ {l : List α} {i : Nat} {x : α}, l[i]? = some x → l.take (i + 1) = l.take i ++ [x]
  | [], i, x, h => by simp at h
  | a :: l, 0, x, h => by
    have e : a = x := Option.some.inj h
    subst e
    rfl
  | a :: l, i + 1, x, h => by
    have ih := take_more (l := l) (i := i) (x := x) h
    show a :: l.take (i + 1) = a :: l.take i ++ [x]
    rw [ih]
    rfl

section
variable {X : Cx} {σ : St} {H H' : Hp} {e a b c o e1 e2 e3 : Expr} {es : List Expr} {v x y z : V} {vs : List V} {P P' : V → Hp → Prop} {R R' : List V → Hp → Prop} {pos p p' apos : Pos} {D : Ends} {rest body : List Stmt} {l m : List Giv}
/-! ### displays -/
theorem x_flag {n ct : Nat} {k : Bool} (h1 : Is X σ H e1 (nv n)) (h2 : Is X σ H e2 (.bl k)) (hs : starEach [e1, e2] X.env = (false, eval e1 X.env) :: starEach [e2] X.env := by rfl) (hs2 : starEach [e2] X.env = (false, eval e2 X.env) :: starEach [] X.env := by rfl) :
    Gets X σ H (.Tuple [e1, e2] ct pos) (fun t H => Flg H t (n, k)) := (x_tup (ac h1 (a1 h2 hs2) hs).gets fun vs _ hv => by rw [hv]; exact (by decide : 2 ≤ 1000)).imp fun v H1 _ h => by
  obtain ⟨q, vs, Hq, rfl, hq, _, rfl⟩ := h
  exact ⟨q, rfl, hq⟩
/-- a display's flags, one by one -/
def FA (X : Cx) (σ : St) (H : Hp) (es : List Expr) (l : List Giv) : Prop := AGets X σ H es (fun ts H => Paired (Flg H) ts l)
theorem fa_nil : FA X σ H [] [] := fun H1 e1 Q q => a0 H1 e1 Q fun H2 e2 => q [] H2 e2 .nil
theorem fa_cons {g : Giv} (h1 : Gets X σ H e (fun t H => Flg H t g)) (h2 : FA X σ H es l) (hs : starEach (e :: es) X.env = (false, eval e X.env) :: starEach es X.env := by rfl) : FA X σ H (e :: es) (g :: l) := fun H1 k1 Q q =>
  ag h1 (fun _ _ _ k h => h.mono k) h2 hs H1 k1 Q fun vs H2 k2 hv => by
    obtain ⟨v, r, rfl, hp, hr⟩ := hv
    exact q _ H2 k2 (.cons hp hr)
theorem x_flags (h : FA X σ H es l) (hl : l.length ≤ 1000) : Gets X σ H (.List es pos) (GL l) := (x_lst h fun vs _ hv => by rw [paired_len hv]; exact hl).imp fun v H1 _ h => by
  obtain ⟨q, vs, Hq, rfl, hq, k, hp⟩ := h
  exact ⟨q, rfl, vs, hq, Paired.mapP hp fun _ _ x => x.mono k⟩
/-- [] -/
theorem x_none : Gets X σ H (.List [] pos) (GL []) := x_flags fa_nil (by decide)
/-- flags + flags -/
theorem x_cat (ha : Gets X σ H a (GL l)) (hb : Gets X σ H b (GL m)) (hl : l.length + m.length ≤ 1000) : Gets X σ H (.BinOp a .Add b pos) (GL (l ++ m)) := fun H1 k1 Q q =>
  ⟨_, pe_op op_cat EW.pe EW.pe, ha H1 k1 _ fun u H2 k2 hu => hb H2 (k1.trans k2) _ fun w H3 k3 hw => by
    obtain ⟨p1, rfl, t1, hp1, q1⟩ := hu
    obtain ⟨p2, rfl, t2, hp2, q2⟩ := hw
    refine ⟨p1, p2, t1, t2, rfl, rfl, k3 _ _ hp1, hp2, Nat.le_trans (by rw [paired_len q1, paired_len q2]; exact hl) (by decide), fun r hr => ?_⟩
    refine q _ _ ((k2.trans k3).trans (Ex.new hr)) ⟨r, rfl, t1 ++ t2, upd_same, paired_app (Paired.mapP q1 fun _ _ x => (x.mono k3).mono (Ex.new hr)) (Paired.mapP q2 fun _ _ x => x.mono (Ex.new hr))⟩⟩
/-- (lo, hi, flags) -/
theorem x_res {lo hi ct : Nat} (h1 : Is X σ H e1 (nv lo)) (h2 : Is X σ H e2 (nv hi)) (h3 : Gets X σ H e3 (GL l)) (hs : starEach [e1, e2, e3] X.env = (false, eval e1 X.env) :: starEach [e2, e3] X.env := by rfl) (hs2 : starEach [e2, e3] X.env = (false, eval e2 X.env) :: starEach [e3] X.env := by rfl)
    (hs3 : starEach [e3] X.env = (false, eval e3 X.env) :: starEach [] X.env := by rfl) : Gets X σ H (.Tuple [e1, e2, e3] ct pos) (Res lo hi l) := by
  have A : AGets X σ H [e1, e2, e3] (fun vs H => ∃ q, vs = [nv lo, nv hi, .ref q] ∧ FlAt l q H) := fun H1 k1 Q q =>
    ag (P := fun x _ => x = nv lo) h1.gets (fun _ _ _ _ h => h) (ag (P := fun x _ => x = nv hi) h2.gets (fun _ _ _ _ h => h) (ag h3 (fun _ _ _ k h => h.mono k) a0.gets hs3) hs2) hs H1 k1 Q fun vs H2 k2 hv => by
      obtain ⟨v1, r1, rfl, rfl, v2, r2, rfl, rfl, v3, r3, rfl, ⟨g, rfl, hg⟩, rfl⟩ := hv
      exact q _ H2 k2 ⟨g, rfl, hg⟩
  exact (x_tup A fun vs _ hv => by obtain ⟨q, rfl, _⟩ := hv; exact (by decide : 3 ≤ 1000)).imp fun v H1 _ h => by
    obtain ⟨q, vs, Hq, rfl, hq, k, g, rfl, hg⟩ := h
    exact ⟨q, g, rfl, hq, hg.mono k⟩
/-- (lo, flags) -/
theorem x_duo {lo ct : Nat} (h1 : Is X σ H e1 (nv lo)) (h2 : Gets X σ H e2 (GL l)) (hs : starEach [e1, e2] X.env = (false, eval e1 X.env) :: starEach [e2] X.env := by rfl) (hs2 : starEach [e2] X.env = (false, eval e2 X.env) :: starEach [] X.env := by rfl) : Gets X σ H (.Tuple [e1, e2] ct pos) (Duo lo l) := by
  have A : AGets X σ H [e1, e2] (fun vs H => ∃ q, vs = [nv lo, .ref q] ∧ FlAt l q H) := fun H1 k1 Q q =>
    ag (P := fun x _ => x = nv lo) h1.gets (fun _ _ _ _ h => h) (ag h2 (fun _ _ _ k h => h.mono k) a0.gets hs2) hs H1 k1 Q fun vs H2 k2 hv => by
      obtain ⟨v1, r1, rfl, rfl, v3, r3, rfl, ⟨g, rfl, hg⟩, rfl⟩ := hv
      exact q _ H2 k2 ⟨g, rfl, hg⟩
  exact (x_tup A fun vs _ hv => by obtain ⟨q, rfl, _⟩ := hv; exact (by decide : 2 ≤ 1000)).imp fun v H1 _ h => by
    obtain ⟨q, vs, Hq, rfl, hq, k, g, rfl, hg⟩ := h
    exact ⟨q, g, rfl, hq, hg.mono k⟩
/-! ### subscripts, in -/
theorem x_ixT {q : Addr} {xs : List V} {j : Nat} (ha : Is X σ H a (.ref q)) (hx : SqT X.K H q xs) (hb : Is X σ H b (nv j)) (hj : xs[j]? = some v) (hs : PlainIx b := by exact fun _ _ => rfl) : Is X σ H (.Subscript a b pos) v := is_of (pe_ix ix_tup EW.pe EW.pe hs) (ev_op ha hb (rv_ixT hx (atI_nat hj)))
theorem x_ixL {q : Addr} {xs : List V} {j : Nat} (ha : Is X σ H a (.ref q)) (hx : SqL X.K H q xs) (hb : Is X σ H b (nv j)) (hj : xs[j]? = some v) (hs : PlainIx b := by exact fun _ _ => rfl) : Is X σ H (.Subscript a b pos) v := is_of (pe_ix ix_list EW.pe EW.pe hs) (ev_op ha hb (rv_ixL hx (atI_nat hj)))
/-- a list just made, at a place -/
theorem x_ixNew {j : Nat} (ha : As X σ H es vs) (hb : ∀ H1, Is X σ H1 b (nv j)) (hj : vs[j]? = some v) (hl : vs.length ≤ 1000) (hs : PlainIx b := by exact fun _ _ => rfl) : Is X σ H (.Subscript (.List es p) b pos) v := fun H1 k1 Q q =>
  ⟨_, pe_ix ix_list (pe_lst AW.pa) EW.pe hs, ha H1 k1 _ fun H2 k2 => ⟨Nat.le_trans hl (by decide), fun w hw => hb _ _ (Ex.refl _) _ fun H3 k3 => ⟨w, vs, j, v, rfl, rfl, SqL.of (k3 _ _ upd_same), atI_nat hj, q H3 ((k2.trans (Ex.new hw)).trans k3)⟩⟩⟩
/-- a tuple just made, at a written place: its flags -/
theorem x_ixDuo {lo : Nat} (ha : Gets X σ H a (Duo lo l)) (hb : ∀ H1, Is X σ H1 b (nv 1)) (hs : PlainIx b := by exact fun _ _ => rfl) : Gets X σ H (.Subscript a b pos) (GL l) := fun H1 k1 Q q =>
  ⟨_, pe_ix ix_tup EW.pe EW.pe hs, ha H1 k1 _ fun u H2 k2 hu => by
    obtain ⟨p, g, rfl, hp, hg⟩ := hu
    exact hb H2 H2 (Ex.refl _) _ fun H3 k3 => ⟨p, _, 1, _, rfl, rfl, SqT.of (k3 _ _ hp), atI_nat (j := 1) rfl, q _ H3 (k2.trans k3) ⟨g, rfl, hg.mono k3⟩⟩⟩
theorem x_ixRes {lo hi : Nat} (ha : Gets X σ H a (Res lo hi l)) (hb : ∀ H1, Is X σ H1 b (nv 2)) (hs : PlainIx b := by exact fun _ _ => rfl) : Gets X σ H (.Subscript a b pos) (GL l) := fun H1 k1 Q q =>
  ⟨_, pe_ix ix_tup EW.pe EW.pe hs, ha H1 k1 _ fun u H2 k2 hu => by
    obtain ⟨p, g, rfl, hp, hg⟩ := hu
    exact hb H2 H2 (Ex.refl _) _ fun H3 k3 => ⟨p, _, 2, _, rfl, rfl, SqT.of (k3 _ _ hp), atI_nat (j := 2) rfl, q _ H3 (k2.trans k3) ⟨g, rfl, hg.mono k3⟩⟩⟩
theorem inN : ∀ (n : Nat) (ns : List Nat), inV (nv n) (ns.map nv) = decide (n ∈ ns)
  | n, [] => by
    rw [decide_eq_false (by simp)]
    rfl
  | n, m :: r => by
    have ih := inN n r
    show (eqV (nv m) (nv n) || inV (nv n) (r.map nv)) = _
    rw [ih]
    show (((m : Int) == (n : Int)) || decide (n ∈ r)) = _
    by_cases h : m = n
    · subst h
      rw [beq_self_eq_true, Bool.true_or, decide_eq_true (List.mem_cons_self ..)]
    · have e : ((m : Int) == (n : Int)) = false := beq_eq_false_iff_ne.mpr (by omega)
      rw [e, Bool.false_or]
      exact decide_eq_decide.mpr (by rw [List.mem_cons]; exact ⟨.inr, fun k => k.resolve_left fun z => h z.symm⟩)
theorem flatN : ∀ ns : List Nat, (ns.map nv).all flatV = true
  | [] => rfl
  | _ :: r => flatN r
theorem t_inT {q : Addr} {n : Nat} (ns : List Nat) (ha : Is X σ H a (nv n)) (hb : Is X σ H b (.ref q)) (hx : SqT X.K H q (ns.map nv)) (hm : behindInMarks .In b = false := by rfl) : Tru X σ H (.Compare a [.In] [b] pos) (decide (n ∈ ns)) := (t_cmpR op_in_seq ha hb (rv_isT hx rfl (flatN ns)) hm).to (inN n ns)
/-- in a tuple written on the spot (constants) -/
theorem x_inU {n ct : Nat} (ns : List Nat) (ha : Is X σ H a (nv n)) (hb : As X σ H es (ns.map nv)) (hl : ns.length ≤ 1000) (hm : behindInMarks .In (.Tuple es ct p) = false := by rfl) : Is X σ H (.Compare a [.In] [.Tuple es ct p] pos) (.bl (decide (n ∈ ns))) := fun H1 k1 Q q =>
  ⟨_, pe_cmpR op_in_seq EW.pe (pe_tup AW.pa) hm, ha H1 k1 _ fun H2 k2 => hb H2 (k1.trans k2) _ fun H3 k3 => ⟨Nat.le_trans (by rw [List.length_map]; exact hl) (by decide), fun w hw => ⟨w, _, rfl, .inr (SqT.of upd_same), rfl, flatN ns, by
    have z := q (upd H3 w (.tup (ns.map nv))) ((k2.trans k3).trans (Ex.new hw))
    rw [← inN n ns] at z
    exact z⟩⟩⟩
/-- a number and flags, as arguments -/
theorem ag_flags (h1 : Is X σ H e1 v) (h2 : Gets X σ H e2 (GL l)) (hs : starEach [e1, e2] X.env = (false, eval e1 X.env) :: starEach [e2] X.env := by rfl) (hs2 : starEach [e2] X.env = (false, eval e2 X.env) :: starEach [] X.env := by rfl) :
    AGets X σ H [e1, e2] (fun vs H => ∃ g, vs = [v, .ref g] ∧ FlAt l g H) := fun H1 k1 Q q =>
  ag (P := fun x _ => x = v) h1.gets (fun _ _ _ _ h => h) (ag h2 (fun _ _ _ k h => h.mono k) a0.gets hs2) hs H1 k1 Q fun vs H2 k2 hv => by
    obtain ⟨v1, r1, rfl, rfl, v3, r3, rfl, ⟨g, rfl, hg⟩, rfl⟩ := hv
    exact q _ H2 k2 ⟨g, rfl, hg⟩
/-! ### targets -/
/-- x, y = a tuple -/
theorem r_duo (i j : Nat) {n n' : Str} {ct : Nat} {q1 q2 : Pos} {lo : Nat} (he : Gets X σ H e (Duo lo l)) (k : ∀ g H1, Ex H H1 → FlAt l g H1 → Runs X H1 rest D ((σ.set i (some (nv lo))).set j (some (.ref g)))) (hN : X.N.Nodup) (hi : X.N[i]? = some n := by rfl) (hj : X.N[j]? = some n' := by rfl) (hc : X.calm = true := by rfl)
    (hx : Loc X.env.scope n := by first | exact Or.inl rfl | exact Or.inr rfl) (hy : Loc X.env.scope n' := by first | exact Or.inl rfl | exact Or.inr rfl) (hf : X.fn n = true ∨ X.env.scope.names.lookup n = some .local := by first | exact .inl rfl | exact .inr rfl) (hf' : X.fn n' = true ∨ X.env.scope.names.lookup n' = some .local := by first | exact .inl rfl | exact .inr rfl)
    (hs : swapsWithSole [.Tuple [.Name n q1, .Name n' q2] ct p] e pos.line X.env = pure false := by rfl) (hw : swappedStores [.Tuple [.Name n q1, .Name n' q2] ct p] e X.env = pure none := by rfl) (h1 : (assignEach [.Tuple [.Name n q1, .Name n' q2] ct p] X.env).map (·.2) = [assign (.Tuple [.Name n q1, .Name n' q2] ct p) X.env] := by rfl)
    (h2 : (assignEach [.Name n q1, .Name n' q2] X.env).map (·.2) = assign (.Name n q1) X.env :: (assignEach [.Name n' q2] X.env).map (·.2) := by rfl) (h3 : (assignEach [.Name n' q2] X.env).map (·.2) = assign (.Name n' q2) X.env :: (assignEach [] X.env).map (·.2) := by rfl)
    (h4 : (assignEach [.Name n q1, .Name n' q2] X.env).length = 2 := by rfl) (h5 : (assignEach [.Name n q1, .Name n' q2] X.env).findIdx? (·.1) = none := by rfl) : Runs X H (.Assign [.Tuple [.Name n q1, .Name n' q2] ct p] e pos :: rest) D σ := fun H1 k1 =>
  ⟨_, pss_cons (ps_asg EW.pe (pg_tup hc (pgs_cons (pg_name hN hi hx hf) (pgs_cons (pg_name hN hj hy hf') pgs_nil h3) h2) h4 h5) hs hw h1) SW.pss, he H1 k1 _ fun v H2 k2 hv => by
    obtain ⟨q, g, rfl, hq, hg⟩ := hv
    exact ⟨q, _, rfl, SqT.of hq, rfl, _, _, rfl, _, _, rfl, rfl, k g H2 (k1.trans k2) hg H2 (Ex.refl _)⟩⟩
/-- x, y, z = a tuple -/
theorem r_res (i j w : Nat) {n n' n'' : Str} {ct : Nat} {q1 q2 q3 : Pos} {lo hi : Nat} (he : Gets X σ H e (Res lo hi l)) (k : ∀ g H1, Ex H H1 → FlAt l g H1 → Runs X H1 rest D (((σ.set i (some (nv lo))).set j (some (nv hi))).set w (some (.ref g)))) (hN : X.N.Nodup) (hi : X.N[i]? = some n := by rfl) (hj : X.N[j]? = some n' := by rfl) (hk : X.N[w]? = some n'' := by rfl) (hc : X.calm = true := by rfl)
    (hx : Loc X.env.scope n := by first | exact Or.inl rfl | exact Or.inr rfl) (hy : Loc X.env.scope n' := by first | exact Or.inl rfl | exact Or.inr rfl) (hz : Loc X.env.scope n'' := by first | exact Or.inl rfl | exact Or.inr rfl) (hf : X.fn n = true ∨ X.env.scope.names.lookup n = some .local := by first | exact .inl rfl | exact .inr rfl) (hf' : X.fn n' = true ∨ X.env.scope.names.lookup n' = some .local := by first | exact .inl rfl | exact .inr rfl) (hf'' : X.fn n'' = true ∨ X.env.scope.names.lookup n'' = some .local := by first | exact .inl rfl | exact .inr rfl)
    (hs : swapsWithSole [.Tuple [.Name n q1, .Name n' q2, .Name n'' q3] ct p] e pos.line X.env = pure false := by rfl) (hw : swappedStores [.Tuple [.Name n q1, .Name n' q2, .Name n'' q3] ct p] e X.env = pure none := by rfl) (h1 : (assignEach [.Tuple [.Name n q1, .Name n' q2, .Name n'' q3] ct p] X.env).map (·.2) = [assign (.Tuple [.Name n q1, .Name n' q2, .Name n'' q3] ct p) X.env] := by rfl)
    (h2 : (assignEach [.Name n q1, .Name n' q2, .Name n'' q3] X.env).map (·.2) = assign (.Name n q1) X.env :: (assignEach [.Name n' q2, .Name n'' q3] X.env).map (·.2) := by rfl) (h3 : (assignEach [.Name n' q2, .Name n'' q3] X.env).map (·.2) = assign (.Name n' q2) X.env :: (assignEach [.Name n'' q3] X.env).map (·.2) := by rfl) (h3' : (assignEach [.Name n'' q3] X.env).map (·.2) = assign (.Name n'' q3) X.env :: (assignEach [] X.env).map (·.2) := by rfl)
    (h4 : (assignEach [.Name n q1, .Name n' q2, .Name n'' q3] X.env).length = 3 := by rfl) (h5 : (assignEach [.Name n q1, .Name n' q2, .Name n'' q3] X.env).findIdx? (·.1) = none := by rfl) : Runs X H (.Assign [.Tuple [.Name n q1, .Name n' q2, .Name n'' q3] ct p] e pos :: rest) D σ := fun H1 k1 =>
  ⟨_, pss_cons (ps_asg EW.pe (pg_tup hc (pgs_cons (pg_name hN hi hx hf) (pgs_cons (pg_name hN hj hy hf') (pgs_cons (pg_name hN hk hz hf'') pgs_nil h3') h3) h2) h4 h5) hs hw h1) SW.pss, he H1 k1 _ fun v H2 k2 hv => by
    obtain ⟨q, g, rfl, hq, hg⟩ := hv
    exact ⟨q, _, rfl, SqT.of hq, rfl, _, _, rfl, _, _, rfl, _, _, rfl, rfl, k g H2 (k1.trans k2) hg H2 (Ex.refl _)⟩⟩
/-! ### a loop over a list of flags -/
theorem r_forF (i j : Nat) {n n' : Str} {ct : Nat} {q1 q2 : Pos} {g : Addr} (I : Nat → St → Prop) (he : Is X σ H e (.ref g)) (hx : FlAt l g H) (hp : PassesOwn (model X.prog X.w) X.A X.env X.xe) (hN : X.N.Nodup) (h0 : I 0 σ)
    (hstep : ∀ t f σ' H1, Ex H H1 → l[t]? = some f → I t σ' → ∀ D' : Ends, (∀ σ'' H2, I (t + 1) σ'' → Ex H1 H2 → D'.nx σ'' H2) → Runs X H1 body D' ((σ'.set i (some (nv f.1))).set j (some (.bl f.2)))) (k : ∀ σ' H1, Ex H H1 → I l.length σ' → Runs X H1 rest D σ')
    (hi : X.N[i]? = some n := by rfl) (hj : X.N[j]? = some n' := by rfl) (hc : X.calm = true := by rfl)
    (hx' : Loc X.env.scope n := by first | exact Or.inl rfl | exact Or.inr rfl) (hy : Loc X.env.scope n' := by first | exact Or.inl rfl | exact Or.inr rfl) (hf : X.fn n = true ∨ X.env.scope.names.lookup n = some .local := by first | exact .inl rfl | exact .inr rfl) (hf' : X.fn n' = true ∨ X.env.scope.names.lookup n' = some .local := by first | exact .inl rfl | exact .inr rfl)
    (h2 : (assignEach [.Name n q1, .Name n' q2] X.env).map (·.2) = assign (.Name n q1) X.env :: (assignEach [.Name n' q2] X.env).map (·.2) := by rfl) (h3 : (assignEach [.Name n' q2] X.env).map (·.2) = assign (.Name n' q2) X.env :: (assignEach [] X.env).map (·.2) := by rfl)
    (h4 : (assignEach [.Name n q1, .Name n' q2] X.env).length = 2 := by rfl) (h5 : (assignEach [.Name n q1, .Name n' q2] X.env).findIdx? (·.1) = none := by rfl)
    (hfs : ∀ x, foldedSetIterable e X.env x = pure x := by intro _; rfl) : Runs X H (.For (.Tuple [.Name n q1, .Name n' q2] ct p) e body [] pos :: rest) D σ := fun H1 k1 => by
  obtain ⟨ts, hg, hts⟩ := hx
  refine ⟨_, pss_cons (ps_for hp hc (pi_list EW.pe) (pg_tup hc (pgs_cons (pg_name hN hi hx' hf) (pgs_cons (pg_name hN hj hy hf') pgs_nil h3) h2) h4 h5) SW.pss hfs) SW.pss, he H1 k1 _ fun H2 k2 => ⟨g, rfl, ⟨ts, SqL.of ((k1.trans k2) _ _ hg)⟩, ?_⟩⟩
  refine for_list (K := X.K) (a := g) (xs := ts) (fun t σ' H' => I t σ' ∧ Ex H H') ⟨h0, k1.trans k2⟩ (fun t σ' H' _ ⟨_, ee⟩ => SqL.of (ee _ _ hg)) (fun t x σ' H' hx2 ⟨hI, ee⟩ => ?_) (fun σ' H' ⟨hI, ee⟩ => ?_)
  · obtain ⟨f, hf2, u, rfl, hu⟩ := paired_get hts hx2
    refine ⟨u, _, rfl, SqT.of (ee _ _ hu), rfl, _, _, rfl, _, _, rfl, rfl, ?_⟩
    refine hstep t f σ' H' ee hf2 hI _ ?_ H' (Ex.refl _)
    exact fun σ'' H3 hI2 k3 => ⟨hI2, ee.trans k3⟩
  · rw [paired_len hts] at hI
    exact k σ' H' ee hI H' (Ex.refl _)
/-! ### comprehensions -/
/-- an element's widest reading in the block, whatever the block's frame -/
def EB (X : Cx) (sc : Scope) (e : Expr) : TE := fun σ H Q => ∀ (s : Shared) (H0 : Hp) (C : Addr) (cl : List (Str × Addr)) (fp : List Addr), EW (X.blk s H0 sc (compEnvC sc cl C X.env) fp) e σ H Q
def TB (X : Cx) (sc : Scope) (e : Expr) : TT := fun σ H Q => ∀ (s : Shared) (H0 : Hp) (C : Addr) (cl : List (Str × Addr)) (fp : List Addr), TW (X.blk s H0 sc (compEnvC sc cl C X.env) fp) e σ H Q
theorem EB.pe {sc : Scope} (s : Shared) (H0 : Hp) (C : Addr) (cl : List (Str × Addr)) (fp : List Addr) : PE (X.blk s H0 sc (compEnvC sc cl C X.env) fp) e (EB X sc e) := ⟨fun pins s1 σ H Q I h => EW.pe.run pins s1 σ H Q I (h s H0 C cl fp)⟩
theorem TB.pt {sc : Scope} (s : Shared) (H0 : Hp) (C : Addr) (cl : List (Str × Addr)) (fp : List Addr) : PT (X.blk s H0 sc (compEnvC sc cl C X.env) fp) e (TB X sc e) := ⟨fun pins s1 σ H Q I h => TW.pt.run pins s1 σ H Q I (h s H0 C cl fp)⟩
/-- an item told by what stands in tuples -/
def Steady (E : Nat → V → Hp → Prop) : Prop := ∀ i t H1 H2, Tx H1 H2 → E i t H1 → E i t H2
theorem lc_step {E : Nat → V → Hp → Prop} (hE : Steady E) {H1 H3 H4 : Hp} {Dl : Addr} {ts : List V} {i : Nat} {y : V} (n1 : H1 Dl = none) (k : Ex H1 H3) (h3 : H3 Dl = some (.lst ts)) (hl : ts.length = i) (hts : ∀ (j : Nat) t, ts[j]? = some t → E j t H3) (k4 : Ex H3 H4) (hy : E i y H4) :
    Ex H1 (upd H4 Dl (.lst (ts ++ [y]))) ∧ ∃ us, upd H4 Dl (.lst (ts ++ [y])) Dl = some (.lst us) ∧ us.length = i + 1 ∧ ∀ (j : Nat) t, us[j]? = some t → E j t (upd H4 Dl (.lst (ts ++ [y]))) := by
  have tx : Tx H4 (upd H4 Dl (.lst (ts ++ [y]))) := fun a xs h => by
    rw [upd_ne (fun z => by rw [z, k4 _ _ h3] at h; cases h)]
    exact h
  refine ⟨Ex.mut (k.trans k4) n1, _, upd_same, by rw [List.length_append, hl]; rfl, fun j t hj => hE j t H4 _ tx ?_⟩
  by_cases hlt : j < ts.length
  · rw [List.getElem?_append_left hlt] at hj
    exact hE j t H3 _ (Tx.of k4) (hts j t hj)
  · rw [List.getElem?_append_right (by omega)] at hj
    have e0 : j - ts.length = 0 := by
      by_cases h : j - ts.length = 0
      · exact h
      · obtain ⟨d, hd⟩ : ∃ d, j - ts.length = d + 1 := ⟨j - ts.length - 1, by omega⟩
        rw [hd] at hj
        simp at hj
    rw [e0] at hj
    have e1 : y = t := Option.some.inj hj
    have e2 : j = i := by omega
    rw [← e1, e2]
    exact hy
/-- what a comprehension without tests makes -/
def Made (n : Nat) (E : Nat → V → Hp → Prop) (v : V) (H : Hp) : Prop := ∃ p ts, v = .ref p ∧ H p = some (.lst ts) ∧ ts.length = n ∧ ∀ (j : Nat) t, ts[j]? = some t → E j t H
/-- [e for x in a tuple] -/
theorem x_lcT (j : Nat) {n : Str} {q : Addr} {xs : List V} {elt iter : Expr} {sc : Scope} {q1 : Pos} (own : List (Str × Nat)) (E : Nat → V → Hp → Prop) (hE : Steady E) (he : Is X σ H iter (.ref q)) (hx : SqT X.K H q xs) (hz : xs.length ≤ 1000) (hN : X.N.Nodup) (ok : BlkOk X.N X.env.scope sc own)
    (hel : ∀ i x H1, Ex H H1 → xs[i]? = some x → ∀ (s : Shared) (H0 : Hp) (C : Addr) (cl : List (Str × Addr)) (fp : List Addr), Gets (X.blk s H0 sc (compEnvC sc cl C X.env) fp) ((wipe σ (own.map (·.2))).set j (some x)) H1 elt (E i))
    (hg : ∀ (s : Shared) (H : Hp) (C : Addr) (cl : List (Str × Addr)) (fp : List Addr), PG (X.blk s H sc (compEnvC sc cl C X.env) fp) (.Name n q1) (gName j)) (hc : X.calm = true := by rfl) (hw : ∀ x, wipe ((wipe σ (own.map (·.2))).set j (some x)) (own.map (·.2)) = wipe σ (own.map (·.2)) := by intro _; rfl)
    (hfs : ∀ x, foldedSetIterable iter X.env x = pure x := by intro _; rfl) : Gets X σ H (.ListComp elt [⟨.Name n q1, iter, [], 0⟩] sc pos) (Made xs.length E) := fun H1 k1 Q qq =>
  ⟨_, pe_lc (g := gName j) (tt := tYes) hc hN (pi_tup EW.pe) ok hg (fun _ _ _ _ _ => pts_nil) (fun s H C cl fp => EB.pe s H C cl fp) hfs, he H1 k1 _ fun H2 k2 => ⟨q, rfl, ⟨xs, ex_t (k1.trans k2) hx⟩, fun Dl hD => by
    refine lc_tup (xs := xs) (fun i H' => Ex H2 H' ∧ ∃ ts, H' Dl = some (.lst ts) ∧ ts.length = i ∧ ∀ (j : Nat) t, ts[j]? = some t → E j t H') ⟨Ex.new hD, [], upd_same, rfl, fun j t h => by simp at h⟩ (fun i H' _ ⟨ee, _⟩ => ex_t ((k1.trans k2).trans ee) hx) (fun i x H3 hi ⟨ee, ts, hts, hlen, hall⟩ => ⟨hw x, ?_⟩) (fun H3 ⟨ee, ts, hts, hlen, hall⟩ => qq _ H3 (k2.trans ee) ⟨Dl, ts, rfl, hts, hlen, hall⟩)
    show EB X sc elt ((wipe σ (own.map (·.2))).set j (some x)) H3 _
    intro s H0 C cl fp
    refine hel i x H3 ((k1.trans k2).trans ee) hi s H0 C cl fp H3 (Ex.refl _) _ fun y H4 k4 hy => ⟨ts, k4 _ _ hts, Nat.lt_of_lt_of_le (show ts.length < 1001 by have := (List.getElem?_eq_some_iff.mp hi).1; omega) (by decide), ?_⟩
    exact lc_step hE hD ee hts hlen hall k4 hy⟩⟩
/-- [e for x in range(n)] -/
theorem x_lcR (j : Nat) {n : Str} {r : Nat} {elt a : Expr} {sc : Scope} {q1 q2 q3 : Pos} (own : List (Str × Nat)) (E : Nat → V → Hp → Prop) (hE : Steady E) (hm : X.mg "range" = none) (he : As X σ H [a] [nv r]) (hz : r ≤ 1000) (hN : X.N.Nodup) (ok : BlkOk X.N X.env.scope sc own)
    (hel : ∀ i H1, Ex H H1 → i < r → ∀ (s : Shared) (H0 : Hp) (C : Addr) (cl : List (Str × Addr)) (fp : List Addr), Gets (X.blk s H0 sc (compEnvC sc cl C X.env) fp) ((wipe σ (own.map (·.2))).set j (some (nv i))) H1 elt (E i))
    (hg : ∀ (s : Shared) (H : Hp) (C : Addr) (cl : List (Str × Addr)) (fp : List Addr), PG (X.blk s H sc (compEnvC sc cl C X.env) fp) (.Name n q1) (gName j)) (hgl : Gl X "range" := by rfl) (hc : X.calm = true := by rfl) (hw : ∀ x, wipe ((wipe σ (own.map (·.2))).set j (some x)) (own.map (·.2)) = wipe σ (own.map (·.2)) := by intro _; rfl)
    (hs : starEach [a] X.env = [(false, eval a X.env)] := by rfl) (hfs : ∀ x, foldedSetIterable (.Call (.Name "range" q2) [a] [] q3) X.env x = pure x := by intro _; rfl) : Gets X σ H (.ListComp elt [⟨.Name n q1, .Call (.Name "range" q2) [a] [] q3, [], 0⟩] sc pos) (Made r E) := fun H1 k1 Q qq =>
  ⟨_, pe_lc (g := gName j) (tt := tYes) hc hN (pi_range1 hgl hm AW.pa hs) ok hg (fun _ _ _ _ _ => pts_nil) (fun s H C cl fp => EB.pe s H C cl fp) hfs, he H1 k1 _ fun H2 k2 => ⟨(r : Int), rfl, by omega, by omega, fun Dl hD => by
    refine lc_range (lo := 0) (n := r) (fun i H' => Ex H2 H' ∧ ∃ ts, H' Dl = some (.lst ts) ∧ ts.length = i ∧ ∀ (j : Nat) t, ts[j]? = some t → E j t H') ⟨Ex.new hD, [], upd_same, rfl, fun j t h => by simp at h⟩ (fun i H3 hi ⟨ee, ts, hts, hlen, hall⟩ => ?_) (fun H3 ⟨ee, ts, hts, hlen, hall⟩ => qq _ H3 (k2.trans ee) ⟨Dl, ts, rfl, hts, hlen, hall⟩)
    have e0 : V.int ((0 : Int) + (i : Int)) = nv i := congrArg V.int (Int.zero_add _)
    rw [e0]
    refine ⟨hw _, ?_⟩
    show EB X sc elt ((wipe σ (own.map (·.2))).set j (some (nv i))) H3 _
    intro s H0 C cl fp
    refine hel i H3 ((k1.trans k2).trans ee) hi s H0 C cl fp H3 (Ex.refl _) _ fun y H4 k4 hy => ⟨ts, k4 _ _ hts, Nat.lt_of_lt_of_le (show ts.length < 1001 by omega) (by decide), ?_⟩
    exact lc_step hE hD ee hts hlen hall k4 hy⟩⟩
/-- [f for f in flags if t(f)] -/
theorem x_lcF (j : Nat) {n : Str} {g : Addr} {iter cond : Expr} {sc : Scope} {q1 q2 : Pos} (own : List (Str × Nat)) (pr : Giv → Bool) (he : Is X σ H iter (.ref g)) (hx : FlAt l g H) (hz : l.length ≤ 1000) (hN : X.N.Nodup) (ok : BlkOk X.N X.env.scope sc own)
    (ht : ∀ (i : Nat) f t H1, Ex H H1 → l[i]? = some f → Flg H1 t f → ∀ (s : Shared) (H0 : Hp) (C : Addr) (cl : List (Str × Addr)) (fp : List Addr), Tru (X.blk s H0 sc (compEnvC sc cl C X.env) fp) ((wipe σ (own.map (·.2))).set j (some t)) H1 cond (pr f))
    (hv : ∀ t H1, ∀ (s : Shared) (H0 : Hp) (C : Addr) (cl : List (Str × Addr)) (fp : List Addr), Is (X.blk s H0 sc (compEnvC sc cl C X.env) fp) ((wipe σ (own.map (·.2))).set j (some t)) H1 (.Name n q2) t)
    (hg : ∀ (s : Shared) (H : Hp) (C : Addr) (cl : List (Str × Addr)) (fp : List Addr), PG (X.blk s H sc (compEnvC sc cl C X.env) fp) (.Name n q1) (gName j)) (hc : X.calm = true := by rfl) (hw : ∀ x, wipe ((wipe σ (own.map (·.2))).set j (some x)) (own.map (·.2)) = wipe σ (own.map (·.2)) := by intro _; rfl)
    (hfs : ∀ x, foldedSetIterable iter X.env x = pure x := by intro _; rfl) : Gets X σ H (.ListComp (.Name n q2) [⟨.Name n q1, iter, [cond], 0⟩] sc pos) (GL (l.filter pr)) := fun H1 k1 Q qq => by
  obtain ⟨ts, hgt, hts⟩ := hx
  refine ⟨_, pe_lc (g := gName j) (tt := TB X sc cond) hc hN (pi_list EW.pe) ok hg (fun s H C cl fp => pts_one (TB.pt s H C cl fp)) (fun s H C cl fp => EB.pe s H C cl fp) hfs, he H1 k1 _ fun H2 k2 => ⟨g, rfl, ⟨ts, SqL.of ((k1.trans k2) _ _ hgt)⟩, fun Dl hD => ?_⟩⟩
  refine lc_list (xs := ts) (fun i H' => Ex H2 H' ∧ ∃ us, H' Dl = some (.lst us) ∧ us.length ≤ i ∧ Paired (Flg H') us ((l.take i).filter pr)) ⟨Ex.new hD, [], upd_same, Nat.le_refl _, .nil⟩ (fun i H' _ ⟨ee, _⟩ => SqL.of (((k1.trans k2).trans ee) _ _ hgt)) (fun i x H3 hi ⟨ee, us, hus, hlen, hall⟩ => ⟨hw x, ?_⟩) (fun H3 ⟨ee, us, hus, hlen, hall⟩ => ?_)
  · obtain ⟨f, hf, hfl⟩ := paired_get hts hi
    have h3 : Flg H3 x f := hfl.mono ((k1.trans k2).trans ee)
    show TB X sc cond ((wipe σ (own.map (·.2))).set j (some x)) H3 _
    intro s H0 C cl fp
    refine ht i f x H3 ((k1.trans k2).trans ee) hf h3 s H0 C cl fp H3 (Ex.refl _) _ fun H4 k4 => ?_
    cases hb : pr f with
    | true =>
      rw [if_pos rfl]
      intro s H0 C cl fp
      refine hv x H4 s H0 C cl fp H4 (Ex.refl _) _ fun H5 k5 => ⟨us, (k4.trans k5) _ _ hus, Nat.lt_of_lt_of_le (show us.length < 1001 by have := (List.getElem?_eq_some_iff.mp hf).1; omega) (by decide), Ex.mut ((ee.trans k4).trans k5) hD, _, upd_same, by rw [List.length_append]; simp only [List.length_cons, List.length_nil]; omega, ?_⟩
      have tx : Tx H3 (upd H5 Dl (.lst (us ++ [x]))) := fun a xs h => by
        rw [upd_ne (fun z => by rw [z, hus] at h; cases h)]
        exact (k4.trans k5) _ _ h
      rw [take_more hf, List.filter_append, List.filter_cons, hb]
      exact paired_app (Paired.mapP hall fun _ _ z => z.tx tx) (paired_one (h3.tx tx))
    | false =>
      rw [if_neg Bool.false_ne_true]
      refine ⟨ee.trans k4, us, k4 _ _ hus, Nat.le_succ_of_le hlen, ?_⟩
      rw [take_more hf, List.filter_append, List.filter_cons, hb]
      have e : (l.take i).filter pr ++ (if false = true then f :: List.filter pr [] else List.filter pr []) = (l.take i).filter pr := by simp
      rw [e]
      exact Paired.mapP hall fun _ _ z => z.mono k4
  · rw [paired_len hts, List.take_length] at hall
    exact qq _ H3 (k2.trans ee) ⟨Dl, rfl, us, hus, hall⟩
end
/-- what a comprehension of flags makes -/
theorem made_flags {l : List Giv} {v : V} {H : Hp} (h : Made l.length (fun i t H => ∃ f, l[i]? = some f ∧ Flg H t f) v H) : GL l v H := by
  obtain ⟨p, ts, rfl, hp, hlen, hall⟩ := h
  refine ⟨p, rfl, ts, hp, ?_⟩
  have key : ∀ (ts : List V) (l : List Giv), ts.length = l.length → (∀ (j : Nat) t, ts[j]? = some t → ∃ f, l[j]? = some f ∧ Flg H t f) → Paired (Flg H) ts l := by
    intro ts
    induction ts with
    | nil =>
      intro l hl _
      cases l with
      | nil => exact .nil
      | cons _ _ => cases hl
    | cons t r ih =>
      intro l hl hall
      cases l with
      | nil => cases hl
      | cons f m =>
        obtain ⟨f', h1, h2⟩ := hall 0 t rfl
        have e : f = f' := Option.some.inj h1
        subst e
        exact .cons h2 (ih m (Nat.succ.inj hl) fun j u hu => by
          obtain ⟨f2, h3, h4⟩ := hall (j + 1) u (by simpa using hu)
          exact ⟨f2, by simpa using h3, h4⟩)
  exact key ts l hlen hall
theorem steady_flags (l : List Giv) : Steady fun i t H => ∃ f, l[i]? = some f ∧ Flg H t f := fun i t H1 H2 k h => by
  obtain ⟨f, h1, h2⟩ := h
  exact ⟨f, h1, h2.tx k⟩
end Fw
/-! FwEnd: the end of a Spec row over a head by facts (the written part found by the Hook). -/
namespace Fw
open PySem PySem.Spec PyProof.Rows L2 Evl
/-! ### the Hook: hookD's facts and one more look -/
abbrev AlX : Type := He.AlD × Bool
def obsXG (n : Nat) (fa : List He.Fa) (fn : List He.DefD) (ex : PySem.W.Frag → Bool) (g : Addr → Option Obj) : AlX := (He.obsD fa fn (He.frG g (He.asD g n)), ex (He.frG g (He.asD g n)))
structure SaysX (fa : List He.Fa) (fn : List He.DefD) (ex : PySem.W.Frag → Bool) (K : PySem.W.Frag) : Prop where
  d : He.SaysD fa fn K
  x : ex K = true
def hookX (n : Nat) (fa : List He.Fa) (fn : List He.DefD) (ex : PySem.W.Frag → Bool) : PySem.W.Hook where
  α := AlX
  obs := fun s => obsXG n fa fn ex s.heap.get?
  val := fun _ => (He.valD fn, true)
  says := fun _ h => ∃ K : PySem.W.Frag, K.In h ∧ SaysX fa fn ex K
  of := fun _ _ e => ⟨_, He.frG_in, congrArg (fun z : AlX => z.1) e, congrArg (fun z : AlX => z.2) e⟩
  keeps := fun _ _ _ ⟨K, hK, c⟩ k => ⟨K, PySem.W.Frag.In.keeps hK k, c⟩
theorem obsXG_eq {n : Nat} {fa : List He.Fa} {fn : List He.DefD} {ex : PySem.W.Frag → Bool} {g : Addr → Option Obj} {s : Shared} (h : ∀ a, g a = s.heap.get? a) : obsXG n fa fn ex g = (hookX n fa fn ex).obs s := by
  have e : g = s.heap.get? := funext h
  rw [e] <;> rfl
/-! ### an own error over ValueError, with an __init__ of its own -/
open PySem.W in
def oexC (K : PySem.W.Frag) (C : Addr) : Bool := match K.lookup C with
  | some ⟨.type "type", _, .cls cd, sl⟩ => (match cd.mro, sl.toList with
    | .ref B :: bm, [_, _, _, _, some (.builtin n), _] => B == C && (n == "ValueError.__new__" && (cd.hasDict && (!cd.hasDel && PySem.HandSPX.refsVE bm)))
    | _, _ => false)
  | _ => false
def veI (K : PySem.W.Frag) : Bool := match PySem.W.findCls K (.type "ValueError") (.type "type") "__init__" with
  | some (.val (.builtin b)) => b == "ValueError.__init__"
  | _ => false
def oexB (K : PySem.W.Frag) (n f : Str) : Bool :=
  oexC K (He.ga K n) && (He.eqO (PySem.W.findIn K (.ref (He.ga K n)) "__setattr__") (some (some (.builtin "object.__setattr__"))) && (decide (PySem.W.subIn K (.ref (He.ga K n)) (.type "BaseException") = some true) &&
    (decide (PySem.W.typeIn K (.ref (He.ga K n)) = some (.type "type")) && (PySem.W.keepIn K (.ref (He.ga K n)) && (He.eqO (PySem.W.findIn K (.ref (He.ga K n)) "__init__") (some (some (.ref (He.ma K (He.ga K n) "__init__")))) &&
    (decide (PySem.W.typeIn K (.ref (He.ma K (He.ga K n) "__init__")) = some (.type "function")) && (xfB K (He.ga K n) && (He.eqO (PySem.W.findIn K (.ref (He.ga K n)) f) (some none) && (decide (PySem.W.exmOne K (.ref (He.ga K n)) (.ref (He.ga K n)) = some true) && veI K)))))))))
structure OexF (K : PySem.W.Frag) (n f : Str) : Prop where
  o : OexC K (He.ga K n)
  i : PySem.W.findIn K (.ref (He.ga K n)) "__init__" = some (some (.ref (He.ma K (He.ga K n) "__init__")))
  t : PySem.W.typeIn K (.ref (He.ma K (He.ga K n) "__init__")) = some (.type "function")
  x : XfC K (He.ga K n)
  no : PySem.W.findIn K (.ref (He.ga K n)) f = some none
  e : PySem.W.exmOne K (.ref (He.ga K n)) (.ref (He.ga K n)) = some true
  v : PySem.W.findCls K (.type "ValueError") (.type "type") "__init__" = some (.val (.builtin "ValueError.__init__"))
open PySem.W in
theorem oexC_ok {K : PySem.W.Frag} {C : Addr} (q : oexC K C = true) : ∃ nm qn N bs bm sn sub ab col dd k0 k1 k2 k3 k5, K.lookup C = some (excClassObj nm qn C N bs bm true sn sub ab col dd k0 k1 k2 k3 k5 "ValueError.__new__") ∧ PySem.HandSPX.refsVE bm = true := by
  unfold oexC at q
  split at q
  · rename_i dd cd sl ho
    split at q
    · rename_i B bm k0 k1 k2 k3 n k5 hm hs
      simp only [Bool.and_eq_true, beq_iff_eq, Bool.not_eq_true'] at q
      obtain ⟨rfl, rfl, hd, hdel, ht⟩ := q
      obtain ⟨nm, bs, mro, ns, qn, hd', sn, sub, ab, col, del⟩ := cd
      dsimp only at hm hdel hd
      subst hm hdel hd
      have hsl : sl = #[k0, k1, k2, k3, some (.builtin "ValueError.__new__"), k5] := by
        obtain ⟨l⟩ := sl
        simp only at hs
        rw [hs]
      subst hsl
      exact ⟨nm, qn, ns, bs, bm, sn, sub, ab, col, dd, k0, k1, k2, k3, k5, ho, ht⟩
    · cases q
  · cases q
theorem veI_ok {K : PySem.W.Frag} (q : veI K = true) : PySem.W.findCls K (.type "ValueError") (.type "type") "__init__" = some (.val (.builtin "ValueError.__init__")) := by
  unfold veI at q
  split at q
  · rename_i b h
    rw [h, beq_iff_eq.mp q]
  · cases q
theorem oexB_ok {K : PySem.W.Frag} {n f : Str} (q : oexB K n f = true) : OexF K n f := by
  obtain ⟨q1, q⟩ := He.ba q
  obtain ⟨q2, q⟩ := He.ba q
  obtain ⟨q3, q⟩ := He.ba q
  obtain ⟨q4, q⟩ := He.ba q
  obtain ⟨q5, q⟩ := He.ba q
  obtain ⟨q6, q⟩ := He.ba q
  obtain ⟨q7, q⟩ := He.ba q
  obtain ⟨q8, q⟩ := He.ba q
  obtain ⟨q9, q⟩ := He.ba q
  obtain ⟨q10, q11⟩ := He.ba q
  exact ⟨⟨oexC_ok q1, He.eqO_ok q2, of_decide_eq_true q3, of_decide_eq_true q4, q5⟩, He.eqO_ok q6, of_decide_eq_true q7, xfB_ok q8, He.eqO_ok q9, of_decide_eq_true q10, veI_ok q11⟩
/-! ### the row's end -/
open PySem.W (Codec OpenSpec) in
theorem walk_specE {r : OpenSpec} {k : Nat} {q : Program} {loose : List Str} {XP : (Str → Option Value) → Heap → Prop} {YP : World → Heap → Prop} {d : DefRec} {ps : List Str}
    (hwell : r.wellSaid = true) (hlen : r.args.length = ps.length) (hr : Room k callerA)
    (F : ∀ (w : World) (mg : Str → Option Value) (fa : Addr) (h : Heap), YP w h → h.Ns mainGlobals mg → mg d.name = some (.ref fa) →
      ∃ (K : PySem.W.Frag) (fd : FuncData) (sp : Sp), K.In h ∧ (∀ (s : Shared) (us : List Value), us.length = ps.length → BindsTo s fd ⟨us, []⟩ (ps.zip us)) ∧
        (∀ (H : Hp) (xs : List V) (a : Codec.denoteAll r.args), OnlyF H → Codec.withinAll r.args a = true → Codec.app r.args r.asked a = true → DwAll K H xs (Codec.encAll r.args a) →
          sp xs H (fun v H' => Dw K H' v (r.ret.enc (Codec.app r.args r.f a))) fun _ _ _ => False) ∧
        ∀ base : Heap, K.In base → base.Ns mainGlobals mg → FnOk r.prog w K mg base CX0 k fa fd ps sp) :
    PySem.W.WalkOS q loose XP YP r d [] (fun f vs => PySem.call f vs) := by
  intro w s₀ s₁ mg mb G Y fa o pm cd doc dV kV ho hd hcd hD hmg hg args vals as hpre hlay hrd hwl hlo
  obtain ⟨a, e1, e2⟩ := PySem.W.os_pre_some hpre
  obtain ⟨e3, hwi⟩ := Codec.encAll_of_decAll r.args args a e1
  subst e3
  obtain ⟨K, fd, sp, KX, hb, hsp, hF⟩ := F w mg fa _ Y G.T.g hmg
  refine PySem.W.enter_call (codeAny_mono (spec_call (R := []) (cl := classAt s₀.heap) (d0 := r.ret.enc (Codec.app r.args r.f a)) KX G.T.g G.T.b G.T.builtins G.T.nolimit hg hwl (pl_encAll _ _) (layable_weight hlay) hr hF hb (by rw [encAll_len]; exact hlen)
    (fun H xs hO hS => hsp H xs a hO hwi e2 hS) fun H e s' z => z.elim) fun r' s' hq => ?_)
  obtain ⟨u, as', rfl, h1, h2, h3, h4⟩ := hq
  exact ⟨.inl ⟨u, _, as', rfl, fun _ => rfl, h1, (OpenSpec.post_iff hwell hwi _ _).mpr rfl, fun z => Bool.noConfusion (show false = true from z)⟩, h2, h3, h4⟩
end Fw
namespace Fw
open PySem PySem.Spec PyProof.Rows L2 Evl
/-! ### the text by places (printed by gen.py) -/
abbrev RR := PySem.Challenge.rw_flagwork_s02_when
def top (i : Nat) : Stmt := PySem.Challenge.pw_flagwork_s02_when.main.body.getD i (.Pass ⟨0, 0, 0, 0⟩)
def d_bit_of : He.DefD := ⟨("bit_of", none), "bit_of", "bit_of", defArgs (top 6), defBody (top 6), defScope (top 6), [], []⟩
def d_even_condition : He.DefD := ⟨("even_condition", none), "even_condition", "even_condition", defArgs (top 7), defBody (top 7), defScope (top 7), [], []⟩
def d_does_hold : He.DefD := ⟨("does_hold", none), "does_hold", "does_hold", defArgs (top 8), defBody (top 8), defScope (top 8), [], []⟩
def d_when : He.DefD := ⟨("when", none), "when", "when", defArgs (top 12), defBody (top 12), defScope (top 12), [], []⟩
def fn : List He.DefD := [d_bit_of, d_even_condition, d_does_hold, d_when]
def fa : List He.Fa := [.int "CARRY" 0, .int "PARITY" 2, .int "ZERO" 6, .int "SIGN" 7, .int "OVER" 11, .int "NO_CONDITION" (-1), .int "MOST_CONDITION" 15, .glo "bit_of", .glo "even_condition", .glo "does_hold", .glo "when", .free "int"]
def exB (K : PySem.W.Frag) : Bool := true
structure Top (K : PySem.W.Frag) (mg : Str → Option Value) : Prop where
  c : SaysX fa fn exB K
  g : ∃ h : Heap, K.In h ∧ h.Ns mainGlobals mg
section
variable {K : PySem.W.Frag} {mg : Str → Option Value}
theorem Top.glo (T : Top K mg) (i : Nat) {n : Str} (h : fa[i]? = some (.glo n) := by rfl) : mg n = some (.ref (He.ga K n)) := by
  obtain ⟨hp, X, G⟩ := T.g
  exact He.glo_ok X G (T.c.d.fact i h)
theorem Top.int (T : Top K mg) (i : Nat) {n : Str} {z : Int} (h : fa[i]? = some (.int n z) := by rfl) : ∃ t, mg n = some (.int z t) := by
  obtain ⟨hp, X, G⟩ := T.g
  exact He.int_ok X G (T.c.d.fact i h)
theorem Top.free (T : Top K mg) (i : Nat) {n : Str} (h : fa[i]? = some (.free n) := by rfl) : mg n = none := by
  obtain ⟨hp, X, G⟩ := T.g
  exact He.free_ok X G (T.c.d.fact i h)
theorem Top.fn_ (T : Top K mg) (i : Nat) {d : He.DefD} (h : fn[i]? = some d := by rfl) : ∃ fd, FunD K d.name d.qual d.params d.body d.scope (d.dvs K) (d.kws K) (He.fAd K d.at_) fd := T.c.d.def_ i h
theorem Top.f_bit_of (T : Top K mg) : ∃ fd, FunD K d_bit_of.name d_bit_of.qual d_bit_of.params d_bit_of.body d_bit_of.scope (d_bit_of.dvs K) (d_bit_of.kws K) (He.fAd K d_bit_of.at_) fd := T.fn_ 0
theorem Top.f_even_condition (T : Top K mg) : ∃ fd, FunD K d_even_condition.name d_even_condition.qual d_even_condition.params d_even_condition.body d_even_condition.scope (d_even_condition.dvs K) (d_even_condition.kws K) (He.fAd K d_even_condition.at_) fd := T.fn_ 1
theorem Top.f_does_hold (T : Top K mg) : ∃ fd, FunD K d_does_hold.name d_does_hold.qual d_does_hold.params d_does_hold.body d_does_hold.scope (d_does_hold.dvs K) (d_does_hold.kws K) (He.fAd K d_does_hold.at_) fd := T.fn_ 2
theorem Top.f_when (T : Top K mg) : ∃ fd, FunD K d_when.name d_when.qual d_when.params d_when.body d_when.scope (d_when.dvs K) (d_when.kws K) (He.fAd K d_when.at_) fd := T.fn_ 3
theorem Top.g_CARRY (T : Top K mg) : ∃ t, mg "CARRY" = some (.int 0 t) := T.int 0
theorem Top.g_PARITY (T : Top K mg) : ∃ t, mg "PARITY" = some (.int 2 t) := T.int 1
theorem Top.g_ZERO (T : Top K mg) : ∃ t, mg "ZERO" = some (.int 6 t) := T.int 2
theorem Top.g_SIGN (T : Top K mg) : ∃ t, mg "SIGN" = some (.int 7 t) := T.int 3
theorem Top.g_OVER (T : Top K mg) : ∃ t, mg "OVER" = some (.int 11 t) := T.int 4
theorem Top.g_NO_CONDITION (T : Top K mg) : ∃ t, mg "NO_CONDITION" = some (.int (-1) t) := T.int 5
theorem Top.g_MOST_CONDITION (T : Top K mg) : ∃ t, mg "MOST_CONDITION" = some (.int 15 t) := T.int 6
theorem Top.g_bit_of (T : Top K mg) : mg "bit_of" = some (.ref (He.ga K "bit_of")) := T.glo 7
theorem Top.g_even_condition (T : Top K mg) : mg "even_condition" = some (.ref (He.ga K "even_condition")) := T.glo 8
theorem Top.g_does_hold (T : Top K mg) : mg "does_hold" = some (.ref (He.ga K "does_hold")) := T.glo 9
theorem Top.g_when (T : Top K mg) : mg "when" = some (.ref (He.ga K "when")) := T.glo 10
theorem Top.n_int (T : Top K mg) : mg "int" = none := T.free 11
end
theorem sc_bit_of : FnScope ["number", "place"] ["number", "place"] d_bit_of.scope := ⟨rfl, rfl, rfl, by decide +kernel, rfl, by decide +kernel, by decide +kernel⟩
theorem sc_even_condition : FnScope ["word", "number", "over", "carry", "zero", "sign", "parity"] ["word", "number"] d_even_condition.scope := ⟨rfl, rfl, rfl, by decide +kernel, rfl, by decide +kernel, by decide +kernel⟩
theorem sc_does_hold : FnScope ["word", "condition"] ["word", "condition"] d_does_hold.scope := ⟨rfl, rfl, rfl, by decide +kernel, rfl, by decide +kernel, by decide +kernel⟩
theorem sc_when : FnScope ["flags", "cond"] ["flags", "cond"] d_when.scope := ⟨rfl, rfl, rfl, by decide +kernel, rfl, by decide +kernel, by decide +kernel⟩
def names : List Str := ["CARRY", "PARITY", "ZERO", "SIGN", "OVER", "bit_of", "even_condition", "does_hold", "NO_CONDITION", "MOST_CONDITION"]
abbrev hk : PySem.W.Hook := hookX 4 fa fn exB
def ob (s : PySem.W.SharedT) : AlX := obsXG 4 fa fn exB (HandSHeadRun.getT s)
theorem ob_eq (s : PySem.W.SharedT) : ob s = hk.obs s.abs := obsXG_eq (HandSHeadRun.getT_eq s)
abbrev qv : Program := PySem.W.view RR.prog [12]
abbrev lawDef : DefRec := HandSHeadRun.topDef RR.prog 12
/-! ### bit_of -/
theorem pv_len {ι : Type} {args : ι → List V} {pre : ι → Hp → Prop} {val : ι → V} {n : Nat} (h : ∀ i, (args i).length = n) (vs : List V) (H : Hp) (Q : VK) (E : XK) (x : Pv args pre val vs H Q E) : vs.length = n := by
  obtain ⟨i, rfl, _⟩ := x
  exact h i
theorem pr_len {ι : Type} {args : ι → List V} {pre : ι → Hp → Prop} {post : ι → V → Hp → Prop} {n : Nat} (h : ∀ i, (args i).length = n) (vs : List V) (H : Hp) (Q : VK) (E : XK) (x : Pr args pre post vs H Q E) : vs.length = n := by
  obtain ⟨i, rfl, _⟩ := x
  exact h i
section
variable {P : Program} {w : World} {K : PySem.W.Frag} {mg : Str → Option Value} {base : Heap}
abbrev spBit : Sp := Pv (ι := Int × Nat) (fun i => [.int i.1, nv i.2]) (fun _ _ => True) (fun i => .int (i.1 / 2 ^ i.2 % 2))
theorem has_bit_of (T : Top K mg) : Has P w K mg base 1 "bit_of" ["number", "place"] spBit := by
  refine has_of d_bit_of T.f_bit_of T.g_bit_of sc_bit_of (fun _ _ _ _ _ _ us hl => match us, hl with | [_, _], _ => rfl) (pv_len fun _ => rfl) fun cdv A outer s H vs Q E hr h => ?_
  obtain ⟨⟨z, p⟩, rfl, _, q⟩ := h
  exact r_retV (oddI (shrI (xv 0) (xv 1)) xi) q
end
theorem nbit {n p : Nat} : V.int ((n : Int) / 2 ^ p % 2) = nv (n / 2 ^ p % 2) := by
  rw [← PySem.W.kbt_cast]
  exact congrArg V.int (by rw [Int.natCast_emod, Int.natCast_ediv] <;> rfl)
section
variable {X : Cx} {σ : St} {H : Hp} {e1 e2 : Expr} {p1 pos : Pos}
/-- bit_of(a number, a place) -/
theorem c_bitI {k p : Nat} {z : Int} (T : Top X.K X.mg) (hr : Room k X.A) (h1 : Is X σ H e1 (.int z)) (h2 : Is X σ H e2 (nv p)) (hk : 1 ≤ k := by decide) (hg : Gl X "bit_of" := by rfl)
    (s1 : starEach [e1, e2] X.env = (false, eval e1 X.env) :: starEach [e2] X.env := by rfl) (s2 : starEach [e2] X.env = (false, eval e2 X.env) :: starEach [] X.env := by rfl) (hpl : (backTo pos (starEach [e2] X.env)).any (·.1) = false := by rfl) : Is X σ H (.Call (.Name "bit_of" p1) [e1, e2] [] pos) (.int (z / 2 ^ p % 2)) :=
  x_pv (has_bit_of T) (hr.mono hk) (z, p) (ac h1 (a1 h2 s2) s1) (fun _ _ => trivial) hg (by decide) s1 hpl
theorem c_bit {k n p : Nat} (T : Top X.K X.mg) (hr : Room k X.A) (h1 : Is X σ H e1 (nv n)) (h2 : Is X σ H e2 (nv p)) (hk : 1 ≤ k := by decide) (hg : Gl X "bit_of" := by rfl)
    (s1 : starEach [e1, e2] X.env = (false, eval e1 X.env) :: starEach [e2] X.env := by rfl) (s2 : starEach [e2] X.env = (false, eval e2 X.env) :: starEach [] X.env := by rfl) (hpl : (backTo pos (starEach [e2] X.env)).any (·.1) = false := by rfl) : Is X σ H (.Call (.Name "bit_of" p1) [e1, e2] [] pos) (nv (n / 2 ^ p % 2)) :=
  (c_bitI T hr h1 h2 hk hg s1 s2 hpl).to nbit
end
/-! ### even_condition, does_hold -/
section
variable {P : Program} {w : World} {K : PySem.W.Frag} {mg : Str → Option Value} {base : Heap}
abbrev spEven : Sp := Pv (ι := Nat × Nat) (fun i => [nv i.1, nv i.2]) (fun i _ => i.2 < 8) (fun i => .bl ((evenC i.1).getD i.2 false))
theorem has_even_condition (T : Top K mg) : Has P w K mg base 2 "even_condition" ["word", "number"] spEven := by
  refine has_of d_even_condition T.f_even_condition T.g_even_condition sc_even_condition (fun _ _ _ _ _ _ us hl => match us, hl with | [_, _], _ => rfl) (pv_len fun _ => rfl) fun cdv A outer s H vs Q E hr h => ?_
  obtain ⟨⟨f, c⟩, rfl, hc, q⟩ := h
  have hc : c < 8 := hc
  refine r_set 2 (v := .bl (FwOps.bitAt f 11)) (eqN (c_bit T hr (xv 0) (xgn 11 T.g_OVER)) (xn 1)) ?_ sc_even_condition.nd
  refine r_set 3 (v := .bl (FwOps.bitAt f 0)) (eqN (c_bit T hr (xv 0) (xgn 0 T.g_CARRY)) (xn 1)) ?_ sc_even_condition.nd
  refine r_set 4 (v := .bl (FwOps.bitAt f 6)) (eqN (c_bit T hr (xv 0) (xgn 6 T.g_ZERO)) (xn 1)) ?_ sc_even_condition.nd
  refine r_set 5 (v := .bl (FwOps.bitAt f 7)) (eqN (c_bit T hr (xv 0) (xgn 7 T.g_SIGN)) (xn 1)) ?_ sc_even_condition.nd
  refine r_set 6 (v := .bl (FwOps.bitAt f 2)) (eqN (c_bit T hr (xv 0) (xgn 2 T.g_PARITY)) (xn 1)) ?_ sc_even_condition.nd
  refine r_retV (v := .bl ((evenC f).getD c false)) ?_ q
  refine x_ixNew (vs := (evenC f).map .bl) (j := c) ?_ (fun H1 => xv 1) ?_ (show 8 ≤ 1000 by decide)
  · exact ac (xv 2) (ac (xv 3) (ac (xv 4) (ac (x_or2 (xv 3) (xv 4)) (ac (xv 5) (ac (xv 6) (ac (neB (xv 5) (xv 2)) (a1 (x_or2 (xv 4) (neB (xv 5) (xv 2))))))))))
  · rw [List.getElem?_map, List.getD_eq_getElem?_getD]
    have hl : c < (evenC f).length := hc
    rw [List.getElem?_eq_getElem hl]
    rfl
abbrev spHold : Sp := Pv (ι := Nat × Nat) (fun i => [nv i.1, nv i.2]) (fun i _ => i.2 ≤ 15) (fun i => .bl (FwOps.holds i.1 i.2))
theorem has_does_hold (T : Top K mg) : Has P w K mg base 3 "does_hold" ["word", "condition"] spHold := by
  refine has_of d_does_hold T.f_does_hold T.g_does_hold sc_does_hold (fun _ _ _ _ _ _ us hl => match us, hl with | [_, _], _ => rfl) (pv_len fun _ => rfl) fun cdv A outer s H vs Q E hr h => ?_
  obtain ⟨⟨f, c⟩, rfl, hc, q⟩ := h
  have hc : c ≤ 15 := hc
  have dv : ∀ n : Nat, CDivW (n : Int) ((2 : Nat) : Int) := fun n => ⟨by decide, by decide⟩
  refine r_retV ((eqB (x_pv (has_even_condition T) hr (f, c / 2) (ac (xv 0) (a1 (divN (xv 1) (xn 2) (dv c)))) (fun _ _ => show c / 2 < 8 by omega)) (eqN (mulN (divN (xv 1) (xn 2) (dv c)) (xn 2) ?_) (xv 1))).to ?_) q
  · exact mulx_ok (a := 8) (b := 8) (by omega) (by decide) (by decide)
  · exact congrArg V.bl (holds_is f c hc)
end
/-! ### an answer of one number -/
def One (z : Int) (v : V) (H : Hp) : Prop := ∃ p, v = .ref p ∧ H p = some (.lst [.int z])
theorem x_lst1 {X : Cx} {σ : St} {H : Hp} {e : Expr} {z : Int} {pos : Pos} (h : Is X σ H e (.int z)) (hs : starEach [e] X.env = (false, eval e X.env) :: starEach [] X.env := by rfl) : Gets X σ H (.List [e] pos) (One z) :=
  (x_lst (a1 h hs).gets (fun vs _ hv => by rw [hv]; exact (by decide : 1 ≤ 1000))).imp fun v H1 _ hp => by
    obtain ⟨q, vs, Hq, rfl, hq, _, rfl⟩ := hp
    exact ⟨q, rfl, hq⟩
theorem dw_ints : ∀ {K : PySem.W.Frag} {H : Hp} (l : List Int) (xs : List V), DwAll K H xs (l.map PySem.W.WData.int) → xs = l.map V.int
  | K, H, [], xs, h => by
    cases h
    rfl
  | K, H, z :: r, xs, h => by
    cases h with
    | cons h1 h2 =>
      cases h1
      rw [dw_ints r _ h2]
      rfl
theorem nat_nat (n : Nat) : FwLines.nat? (n : Int) = some n := by
  unfold FwLines.nat?
  rw [if_pos (Int.natCast_nonneg n)]
  rfl
theorem in_int {lo hi z : Int} (h : PySem.W.Codec.inInt lo hi z = true) : lo ≤ z ∧ z ≤ hi := by
  rw [PySem.W.Codec.inInt, Bool.and_eq_true, decide_eq_true_eq, decide_eq_true_eq] at h
  exact h
/-- the name that the law's def stands for -/
theorem law_at {K : PySem.W.Frag} {mg : Str → Option Value} {n m : Str} {fa : Addr} (h : mg m = some (.ref fa)) (e : m = n) (g : mg n = some (.ref (He.ga K n))) : fa = He.ga K n := by
  rw [e, g] at h
  injection h with h
  injection h with h
  exact h.symm
/-! ### when -/
def whenZ (f c : Nat) : Int := if 15 < c then -1 else if FwOps.holds f c = true then 1 else 0
theorem spec_when (f c : Nat) : PyWqacds.when f c = [whenZ f c] := by
  have e : Neutral.callOf [[1, (f : Int), (c : Int)]] = some (.when_ f c) := by
    show (match FwLines.nat? f, FwLines.nat? c with | some x, some y => some (FlagOpsSpec.Call.when_ x y) | _, _ => none) = _
    rw [nat_nat, nat_nat]
  show (Neutral.step Neutral.start [[1, (f : Int), (c : Int)]]).2 = _
  unfold Neutral.step
  rw [e]
  rfl
abbrev spLaw : Sp := Pr (ι := Nat × Nat) (fun i => [nv i.1, nv i.2]) (fun _ _ => True) (fun i => One (whenZ i.1 i.2))
section
variable {P : Program} {w : World} {K : PySem.W.Frag} {mg : Str → Option Value}
theorem law_ok (T : Top K mg) : ∃ fd, (∀ (s : Shared) (us : List Value), us.length = (["flags", "cond"] : List Str).length → BindsTo s fd ⟨us, []⟩ ((["flags", "cond"] : List Str).zip us)) ∧ ∀ base : Heap, FnOk P w K mg base CX0 4 (He.ga K "when") fd ["flags", "cond"] spLaw := by
  refine law_of d_when T.f_when sc_when (fun _ _ _ _ _ _ us hl => match us, hl with | [_, _], _ => rfl) (pr_len fun _ => rfl) fun base cdv A outer s H vs Q E hr h => ?_
  obtain ⟨⟨f, c⟩, rfl, _, q⟩ := h
  have q : ∀ (v : V) (H2 : Hp), Ex H H2 → One (whenZ f c) v H2 → Q v H2 := q
  unfold whenZ at q
  refine r_when (tgtN (xv 1) (xgn 15 T.g_MOST_CONDITION)) (fun hk => ?_) fun hk => ?_
  · rw [if_pos (of_decide_eq_true hk)] at q
    exact r_ret (x_lst1 (xgi T.g_NO_CONDITION)) q
  · have hle : c ≤ 15 := Nat.le_of_not_lt (of_decide_eq_false hk)
    rw [if_neg (of_decide_eq_false hk)] at q
    refine r_ret (x_lst1 ((x_intB T.n_int (x_pv (has_does_hold T) hr (f, c) (ac (xv 0) (a1 (xv 1))) fun _ _ => hle)).to ?_)) q
    show nv (if FwOps.holds f c = true then 1 else 0) = _
    split <;> rfl
end
theorem run (w : World) : HandSHeadRun.RunEqS RR qv hk ob 400 names w := by
  intro os
  kernel_rfl
end Fw
open PySem PySem.W PySem.Calls PyProof.Rows
theorem PySem.Challenge.cw_flagwork_s02_when_holds : PySem.Challenge.rw_flagwork_s02_when.Holds := by
  w_on
  refine HandSHeadRun.head_spec (r := Fw.RR) (q := Fw.qv) (H := Fw.hk) (ob := Fw.ob) (M := 400) (loose := Fw.names) (d := Fw.lawDef) (kwd := []) Fw.ob_eq
    (by kernel_rfl) (fun s => by kernel_rfl) Fw.run (by kernel_rfl) (by kernel_rfl) (by kernel_rfl) os_shapes (by first | assumption | decide +kernel) (by decide +kernel) ⟨rfl, rfl, rfl, rfl, rfl, by decide +kernel⟩ ?hw ?hc
  case hw => exact ⟨[.int 0, .int 0], by decide +kernel, by decide +kernel⟩
  case hc =>
    refine Fw.walk_specE (k := 4) (ps := ["flags", "cond"]) (by decide +kernel) rfl ⟨rfl, by decide, by decide⟩ ?F
    intro w mg fa h Y G hmg
    obtain ⟨K, KX, c⟩ := Y
    have T : Fw.Top K mg := ⟨c, h, KX, G⟩
    obtain rfl := Fw.law_at (n := "when") hmg (by kernel_rfl) T.g_when
    obtain ⟨fd, hb, hF⟩ := Fw.law_ok (P := Fw.RR.prog) (w := w) T
    refine ⟨K, fd, Fw.spLaw, KX, hb, fun H xs a hO hwi hask hx => ?_, fun base _ _ => hF base⟩
    obtain ⟨z, y, u⟩ := a
    have e1 := Fw.dw_ints [z, y] xs hx
    have q : (Codec.inInt 0 4294967295 z && (Codec.inInt 0 255 y && true)) = true := hwi
    rw [Bool.and_eq_true, Bool.and_eq_true] at q
    obtain ⟨n, rfl⟩ := Int.eq_ofNat_of_zero_le (Fw.in_int q.1).1
    obtain ⟨b, rfl⟩ := Int.eq_ofNat_of_zero_le (Fw.in_int q.2.1).1
    refine ⟨(n, b), e1, trivial, fun v H2 e2 hp => ?_⟩
    obtain ⟨p, rfl, hp⟩ := hp
    show L2.Dw K H2 (.ref p) (Codec.encList WData.int (PyWqacds.when n b))
    rw [Fw.spec_when]
    exact .lst (L2.SqL.of hp) (L2.dw_ints [Fw.whenZ n b])
#print axioms PySem.Challenge.cw_flagwork_s02_when_holds

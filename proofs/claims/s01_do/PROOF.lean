import PyProof.Rows.All
import Wide.All
import OpenK.AllK
import Wide.FinOn
import PyProof.EqAt
import PyProof.EqKinds
import PyProof.TupleCall
import Open.SpecLaws
import KE.OsGo
import KE.OsHead
import HandS.ForSpec
import HandS.Comp
import HandS.Iter
import HandS.Evl
import HandS.Wide
import HandS.WideBits
import HandS.ExcInit
import HandS.ExcOwn
import HandS.ExcField
import HandS.CallLocal
import HandS.Defaults
import HandS.HeadHook1
import HandS.HeadHook2
import HandS.Head4
import PySem.Challenge.RW_flagwork_s01_do
set_option Elab.async false
set_option linter.all false
set_option maxRecDepth 100000
set_option maxHeartbeats 0
/-! FwMath: plain Lean over the specification; no program in sight. -/
namespace Fw
/-! ### single bits -/
theorem two_pos (p : Nat) : 0 < 2 ^ p := Nat.pow_pos (by decide)
theorem bit_if (f p : Nat) : f / 2 ^ p % 2 = if FwOps.bitAt f p = true then 1 else 0 := by
  unfold FwOps.bitAt
  have h := Nat.mod_two_eq_zero_or_one (f / 2 ^ p)
  rcases h with h | h <;> rw [h] <;> rfl
theorem bit_le (n p : Nat) : n / 2 ^ p % 2 * 2 ^ p ≤ n := by
  rcases Nat.mod_two_eq_zero_or_one (n / 2 ^ p) with h | h
  · rw [h]
    omega
  · rw [h, Nat.one_mul]
    have h2 : n / 2 ^ p ≠ 0 := fun z => by
      rw [z] at h
      cases h
    exact Nat.le_of_not_lt fun z => h2 (Nat.div_eq_of_lt z)
theorem withBit_is (n p : Nat) (v : Bool) : n - n / 2 ^ p % 2 * 2 ^ p + (if v = true then 1 else 0) * 2 ^ p = FwOps.withBit n p v := by
  have hle := bit_le n p
  have hb := bit_if n p
  unfold FwOps.withBit
  rw [hb] at hle ⊢
  cases hv : v <;> cases hk : FwOps.bitAt n p <;> simp [hk] at hle ⊢
  omega
theorem put_is (f p : Nat) (v : Bool) : FwOps.withBit f p v = FwOps.put f (p, v) := rfl
theorem giving_more {f i : Nat} {g : FwOps.Given} {l : List FwOps.Given} (h : l.take (i + 1) = l.take i ++ [g]) : FwOps.giving f (l.take (i + 1)) = FwOps.put (FwOps.giving f (l.take i)) g := by
  unfold FwOps.giving
  rw [h, List.foldl_append]
  rfl
/-! ### the byte of flags -/
def byteStep (f a p : Nat) : Nat := a + f / 2 ^ p % 2 * 2 ^ p
def byteRun (f : Nat) (l : List Nat) : Nat := l.foldl (byteStep f) 2
theorem byte_is (f : Nat) : byteRun f [7, 6, 4, 2, 0] = FwOps.byteOf f := by
  unfold byteRun FwOps.byteOf FwOps.SIGN FwOps.ZERO FwOps.HALF FwOps.PARITY FwOps.CARRY
  simp only [List.foldl, List.map, byteStep, bit_if f]
  generalize FwOps.bitAt f 7 = a
  generalize FwOps.bitAt f 6 = b
  generalize FwOps.bitAt f 4 = c
  generalize FwOps.bitAt f 2 = d
  generalize FwOps.bitAt f 0 = e
  revert a b c d e
  decide
theorem byteRun_more {f i p : Nat} {l : List Nat} (h : l.take (i + 1) = l.take i ++ [p]) : byteRun f (l.take (i + 1)) = byteStep f (byteRun f (l.take i)) p := by
  unfold byteRun
  rw [h, List.foldl_append]
  rfl
/-! ### conditions -/
def evenC (f : Nat) : List Bool := [FwOps.bitAt f 11, FwOps.bitAt f 0, FwOps.bitAt f 6, FwOps.bitAt f 0 || FwOps.bitAt f 6, FwOps.bitAt f 7, FwOps.bitAt f 2, FwOps.bitAt f 7 != FwOps.bitAt f 11, FwOps.bitAt f 6 || FwOps.bitAt f 7 != FwOps.bitAt f 11]
theorem holds_is (f c : Nat) (h : c ≤ 15) : ((evenC f).getD (c / 2) false == decide (c / 2 * 2 = c)) = FwOps.holds f c := by
  unfold FwOps.holds FwOps.SIGN FwOps.ZERO FwOps.OVER FwOps.PARITY FwOps.CARRY evenC
  generalize FwOps.bitAt f 11 = o
  generalize FwOps.bitAt f 7 = s
  generalize FwOps.bitAt f 6 = z
  generalize FwOps.bitAt f 0 = k
  generalize FwOps.bitAt f 2 = p
  have key : ∀ c : Fin 16, ∀ o s z k p : Bool, (([o, k, z, k || z, s, p, s != o, z || s != o].getD (c.val / 2) false) == decide (c.val / 2 * 2 = c.val)) =
      ((match c.val / 2 with | 0 => o | 1 => k | 2 => z | 3 => k || z | 4 => s | 5 => p | 6 => s != o | _ => z || s != o) != decide (c.val % 2 = 1)) := by decide
  exact key ⟨c, by omega⟩ o s z k p
end Fw
namespace Fw
/-! ### what a number shows; a number with a sign -/
theorem bitsum_is (x : Nat) : ∀ l : List Nat, (l.map fun i => x / 2 ^ i % 2).sum = (l.filter fun i => FwOps.bitAt x i).length
  | [] => rfl
  | i :: r => by
    have ih := bitsum_is x r
    rw [List.map_cons, List.sum_cons, ih, bit_if x i, List.filter_cons]
    cases h : FwOps.bitAt x i with
    | true =>
      rw [if_pos rfl, if_pos rfl, List.length_cons]
      omega
    | false =>
      rw [if_neg Bool.false_ne_true, if_neg Bool.false_ne_true]
      omega
theorem even_is (x : Nat) : decide (((List.range 8).map fun i => x / 2 ^ i % 2).sum ∈ ([0, 2, 4, 6, 8] : List Nat)) = FwOps.even8 x := by
  unfold FwOps.even8
  rw [bitsum_is]
  have hl : ((List.range 8).filter fun i => FwOps.bitAt x i).length ≤ 8 := by
    have h := List.length_filter_le (fun i => FwOps.bitAt x i) (List.range 8)
    rwa [List.length_range] at h
  generalize ((List.range 8).filter fun i => FwOps.bitAt x i).length = n at hl
  have key : ∀ n : Fin 9, decide (n.val ∈ ([0, 2, 4, 6, 8] : List Nat)) = decide (n.val % 2 = 0) := by decide
  exact key ⟨n, by omega⟩
theorem two_w {w : Nat} (h : 1 ≤ w) : 2 ^ w = 2 * 2 ^ (w - 1) := by
  obtain ⟨v, rfl⟩ : ∃ v, w = v + 1 := ⟨w - 1, by omega⟩
  rw [Nat.add_sub_cancel, Nat.pow_succ]
  omega
theorem signed_low {w x : Nat} (hw : 1 ≤ w) (h : 2 * x < 2 ^ w) : FwOps.signed w x = (x : Int) := by
  have e := two_w hw
  unfold FwOps.signed
  rw [if_pos (by omega)]
theorem signed_high {w x : Nat} (hw : 1 ≤ w) (h : ¬ 2 * x < 2 ^ w) : FwOps.signed w x = (x : Int) - ((2 ^ w : Nat) : Int) := by
  have e := two_w hw
  unfold FwOps.signed
  rw [if_neg (by omega)]
  have e2 : ((2 ^ w : Nat) : Int) = (2 : Int) ^ w := Int.natCast_pow 2 w
  rw [e2]
end Fw
namespace Fw
/-! ### differences -/
theorem less_is (w a b k : Nat) : ((a : Int) - (b : Int) - (k : Int)) % ((2 ^ w : Nat) : Int) = ((FwOps.less w a b k : Nat) : Int) := by
  have e2 : ((2 ^ w : Nat) : Int) = (2 : Int) ^ w := Int.natCast_pow 2 w
  unfold FwOps.less FwOps.wrap
  rw [Int.toNat_of_nonneg (Int.emod_nonneg _ (by have := two_pos w; omega)), e2]
theorem less_lt (w a b k : Nat) : FwOps.less w a b k < 2 ^ w := by
  have h := less_is w a b k
  have h2 := Int.emod_lt_of_pos ((a : Int) - (b : Int) - (k : Int)) (show (0 : Int) < ((2 ^ w : Nat) : Int) by have := two_pos w; omega)
  omega
end Fw
/-! FwLayer: a derivation and its evaluation in one term. EW, TW, AW, SW: the widest reading of a piece of syntax (some reading that the layer proves, and it holds). -/
namespace Fw
open PySem PySem.Spec PyProof.Rows L2 Evl
abbrev Str := PySem.Str
abbrev St := L2.St
def EW (X : Cx) (e : Expr) : TE := fun σ H Q => ∃ t, PE X e t ∧ t σ H Q
def TW (X : Cx) (e : Expr) : TT := fun σ H Q => ∃ t, PT X e t ∧ t σ H Q
def BW (X : Cx) (e : Expr) : TT := fun σ H Q => ∃ t, PW X e t ∧ t σ H Q
def AW (X : Cx) (es : List Expr) : TA := fun σ H Q => ∃ t, PA X es t ∧ t σ H Q
def SW (X : Cx) (b : List Stmt) : TS := fun D σ H => ∃ t, PSs X b t ∧ t D σ H
theorem EW.pe {X : Cx} {e : Expr} : PE X e (EW X e) := ⟨fun pins s σ H Q I ⟨_, h, q⟩ => h.run pins s σ H Q I q⟩
theorem TW.pt {X : Cx} {e : Expr} : PT X e (TW X e) := ⟨fun pins s σ H Q I ⟨_, h, q⟩ => h.run pins s σ H Q I q⟩
theorem BW.pw {X : Cx} {e : Expr} : PW X e (BW X e) := ⟨fun wh pins s σ H Q I ⟨_, h, q⟩ => h.run wh pins s σ H Q I q⟩
theorem AW.pa {X : Cx} {es : List Expr} : PA X es (AW X es) := ⟨fun pos pins s σ H Q I ⟨_, h, q⟩ => h.run pos pins s σ H Q I q⟩
theorem SW.pss {X : Cx} {b : List Stmt} : PSs X b (SW X b) := ⟨fun pins s σ H D I ⟨_, h, q⟩ => h.run pins s σ H D I q⟩
theorem SW.nox {X : Cx} {b : List Stmt} {D : Ends} {σ : St} {H : Hp} (h : SW X.nox b D σ H) : SW X b D σ H := by
  obtain ⟨t, a, q⟩ := h
  exact ⟨t, a.nox, q⟩

/-- evaluates to a thing that P tells of, whatever has come to the heap meanwhile -/
def Gets (X : Cx) (σ : St) (H : Hp) (e : Expr) (P : V → Hp → Prop) : Prop := ∀ H1, Ex H H1 → ∀ Q : VK, (∀ v H2, Ex H1 H2 → P v H2 → Q v H2) → EW X e σ H1 Q
/-- evaluates to v -/
def Is (X : Cx) (σ : St) (H : Hp) (e : Expr) (v : V) : Prop := Ev (EW X e) σ H v
def Tru (X : Cx) (σ : St) (H : Hp) (e : Expr) (b : Bool) : Prop := EvT (TW X e) σ H b
def Brn (X : Cx) (σ : St) (H : Hp) (e : Expr) (b : Bool) : Prop := EvT (BW X e) σ H b
def As (X : Cx) (σ : St) (H : Hp) (es : List Expr) (vs : List V) : Prop := EvA (AW X es) σ H vs
def AGets (X : Cx) (σ : St) (H : Hp) (es : List Expr) (R : List V → Hp → Prop) : Prop := ∀ H1, Ex H H1 → ∀ Q : List V → Hp → Prop, (∀ vs H2, Ex H1 H2 → R vs H2 → Q vs H2) → AW X es σ H1 Q
/-- a block, whatever has come to the heap -/
def Runs (X : Cx) (H : Hp) (b : List Stmt) (D : Ends) (σ : St) : Prop := ∀ H1, Ex H H1 → SW X b D σ H1

section
variable {X : Cx} {σ : St} {H H' : Hp} {e a b c o : Expr} {es : List Expr} {v x y z : V} {vs : List V} {P P' : V → Hp → Prop} {R R' : List V → Hp → Prop} {pos p p' apos : Pos} {D : Ends} {rest : List Stmt}
theorem Is.gets (h : Is X σ H e v) : Gets X σ H e (fun x _ => x = v) := fun H1 e1 Q q => h H1 e1 Q fun H2 e2 => q v H2 e2 rfl
theorem Gets.is (h : Gets X σ H e (fun x _ => x = v)) : Is X σ H e v := fun H1 e1 Q q => h H1 e1 Q fun w H2 e2 hw => by
  subst hw
  exact q H2 e2
theorem As.gets (h : As X σ H es vs) : AGets X σ H es (fun ws _ => ws = vs) := fun H1 e1 Q q => h H1 e1 Q fun H2 e2 => q vs H2 e2 rfl
theorem Gets.imp (h : Gets X σ H e P) (k : ∀ v H1, Ex H H1 → P v H1 → P' v H1) : Gets X σ H e P' := fun H1 e1 Q q => h H1 e1 Q fun v H2 e2 hp => q v H2 e2 (k v H2 (e1.trans e2) hp)
theorem Is.to (h : Is X σ H e v) (k : v = x) : Is X σ H e x := k ▸ h
theorem Tru.to {b b' : Bool} (h : Tru X σ H e b) (k : b = b') : Tru X σ H e b' := k ▸ h
theorem Is.mono (k : Ex H H') (h : Is X σ H e v) : Is X σ H' e v := fun H1 e1 Q q => h H1 (k.trans e1) Q q
theorem Gets.mono (k : Ex H H') (h : Gets X σ H e P) : Gets X σ H' e P := fun H1 e1 Q q => h H1 (k.trans e1) Q q
theorem Runs.mono (k : Ex H H') (h : Runs X H rest D σ) : Runs X H' rest D σ := fun H1 e1 => h H1 (k.trans e1)
theorem is_of {t : TE} (h : PE X e t) (k : Ev t σ H v) : Is X σ H e v := fun H1 e1 Q q => ⟨t, h, k H1 e1 Q q⟩

/-! ### names, constants -/
abbrev nv (n : Nat) : V := .int (n : Int)
theorem x_var (i : Nat) {n : Str} (hN : X.N[i]? = some n) (hv : Vis X.env.scope n) (h : σ[i]? = some (some v)) (hd : (n == ("__debug__" : Str)) = false := by decide) (hc : (n == ("__classdict__" : Str)) = false := by decide) : Is X σ H (.Name n pos) v :=
  is_of (pe_var hN hv hd hc) (ev_var h)
/-- a local name: its slot -/
theorem xv (i : Nat) {n : Str} (hN : X.N[i]? = some n := by rfl) (hv : Vis X.env.scope n := by first | exact Or.inl rfl | exact Or.inr (Or.inl rfl) | exact Or.inr (Or.inr rfl)) (h : σ[i]? = some (some v) := by rfl) (hd : (n == ("__debug__" : Str)) = false := by decide)
    (hc : (n == ("__classdict__" : Str)) = false := by decide) : Is X σ H (.Name n pos) v := x_var i hN hv h hd hc
theorem xi {i : Int} {j : Nat} : Is X σ H (.Constant (.int i) j pos) (.int i) := is_of pe_int ev_c
/-- a written number from 0 on -/
theorem xn (n : Nat) {i : Int} {j : Nat} (h : i = (n : Int) := by rfl) : Is X σ H (.Constant (.int i) j pos) (nv n) := by
  subst h
  exact xi
theorem xb {k : Bool} {j : Nat} : Is X σ H (.Constant (.bool k) j pos) (.bl k) := is_of pe_bl ev_c
theorem xg {n : Str} {u : Value} (hm : X.mg n = some u) (r : RelV v u) (hg : Gl X n := by rfl) (hd : (n == ("__debug__" : Str)) = false := by decide) : Is X σ H (.Name n pos) v := is_of (pe_glob hg hm r hd) ev_c
/-- a number of the module's -/
theorem xgi {n : Str} {i : Int} (hm : ∃ t, X.mg n = some (.int i t)) (hg : Gl X n := by rfl) (hd : (n == ("__debug__" : Str)) = false := by decide) : Is X σ H (.Name n pos) (.int i) := by
  obtain ⟨t, h⟩ := hm
  exact xg h ⟨t, rfl⟩ hg hd
theorem xgn {n : Str} (k : Nat) {i : Int} (hm : ∃ t, X.mg n = some (.int i t)) (h : i = (k : Int) := by rfl) (hg : Gl X n := by rfl) (hd : (n == ("__debug__" : Str)) = false := by decide) : Is X σ H (.Name n pos) (nv k) := by
  subst h
  exact xgi hm hg hd
/-- an object of the module's -/
theorem xgr {n : Str} {q : Addr} (hm : X.mg n = some (.ref q)) (hg : Gl X n := by rfl) (hd : (n == ("__debug__" : Str)) = false := by decide) : Is X σ H (.Name n pos) (.ref q) := xg hm rfl hg hd

/-! ### operators -/
theorem x_op {op : Operator} {r : R2} (ho : OpR X (binaryOp op) r) (ha : Is X σ H a x) (hb : Is X σ H b y) (hr : RV r x y H z) : Is X σ H (.BinOp a op b pos) z := is_of (pe_op ho EW.pe EW.pe) (ev_op ha hb hr)
theorem rv_of {r : R2} (h : ∀ H1 (Q : VK), Q z H1 → r x y H1 Q) : RV r x y H z := fun H1 _ Q q => h H1 Q (q H1 (Ex.refl H1))
section
variable {i j : Int} {n m : Nat}
theorem addI (ha : Is X σ H a (.int i)) (hb : Is X σ H b (.int j)) : Is X σ H (.BinOp a .Add b pos) (.int (i + j)) := x_op op_add ha hb rv_I0
theorem subI (ha : Is X σ H a (.int i)) (hb : Is X σ H b (.int j)) : Is X σ H (.BinOp a .Sub b pos) (.int (i - j)) := x_op op_sub ha hb rv_I0
theorem addN (ha : Is X σ H a (nv n)) (hb : Is X σ H b (nv m)) : Is X σ H (.BinOp a .Add b pos) (nv (n + m)) := (addI ha hb).to (by rw [← Int.natCast_add])
theorem subN (ha : Is X σ H a (nv n)) (hb : Is X σ H b (nv m)) (h : m ≤ n) : Is X σ H (.BinOp a .Sub b pos) (nv (n - m)) := (subI ha hb).to (by rw [← Int.ofNat_sub h])
theorem mulI (ha : Is X σ H a (.int i)) (hb : Is X σ H b (.int j)) (h : CMulX i j) : Is X σ H (.BinOp a .Mult b pos) (.int (i * j)) := x_op op_mulX ha hb (rv_I h)
theorem mulN (ha : Is X σ H a (nv n)) (hb : Is X σ H b (nv m)) (h : CMulX n m) : Is X σ H (.BinOp a .Mult b pos) (nv (n * m)) := (mulI ha hb h).to (by rw [← Int.natCast_mul])
theorem modI (ha : Is X σ H a (.int i)) (hb : Is X σ H b (.int j)) (h : 0 < j) : Is X σ H (.BinOp a .Mod b pos) (.int (i % j)) := x_op op_mod ha hb (rv_I h)
theorem modN (ha : Is X σ H a (nv n)) (hb : Is X σ H b (nv m)) (h : 0 < m) : Is X σ H (.BinOp a .Mod b pos) (nv (n % m)) := (modI ha hb (by omega)).to (by rw [← Int.natCast_emod])
theorem divI (ha : Is X σ H a (.int i)) (hb : Is X σ H b (.int j)) (h : CDivW i j) : Is X σ H (.BinOp a .FloorDiv b pos) (.int (i / j)) := x_op op_fdivW ha hb (rv_I h)
theorem divN (ha : Is X σ H a (nv n)) (hb : Is X σ H b (nv m)) (h : CDivW n m) : Is X σ H (.BinOp a .FloorDiv b pos) (nv (n / m)) := (divI ha hb h).to (by rw [← Int.natCast_ediv])
theorem shrI (ha : Is X σ H a (.int i)) (hb : Is X σ H b (nv m)) : Is X σ H (.BinOp a .RShift b pos) (.int (i / 2 ^ m)) := x_op op_shrN ha hb (rv_of fun H1 Q q => ⟨i, m, rfl, rfl, q⟩)
theorem shrN (ha : Is X σ H a (nv n)) (hb : Is X σ H b (nv m)) : Is X σ H (.BinOp a .RShift b pos) (nv (n / 2 ^ m)) := (shrI ha hb).to (by rw [← PySem.W.kbt_cast, ← Int.natCast_ediv])
theorem shlI (ha : Is X σ H a (.int i)) (hb : Is X σ H b (nv m)) (h : CShl i m) : Is X σ H (.BinOp a .LShift b pos) (.int (i * 2 ^ m)) := x_op op_shlN ha hb (rv_of fun H1 Q q => ⟨i, m, rfl, rfl, h, q⟩)
theorem shlN (ha : Is X σ H a (nv n)) (hb : Is X σ H b (nv m)) (h : CShl n m) : Is X σ H (.BinOp a .LShift b pos) (nv (n * 2 ^ m)) := (shlI ha hb h).to (by rw [← PySem.W.kbt_cast, ← Int.natCast_mul])
theorem oneShl (ha : Is X σ H a (nv 1)) (hb : Is X σ H b (nv m)) (h : m ≤ 1000) : Is X σ H (.BinOp a .LShift b pos) (nv (2 ^ m)) := (x_op op_oneShl ha hb (rv_of fun H1 Q q => ⟨m, rfl, rfl, by omega, q⟩)).to (by rw [← PySem.W.kbt_cast])
theorem andI (ha : Is X σ H a (.int i)) (hb : Is X σ H b (.int j)) : Is X σ H (.BinOp a .BitAnd b pos) (.int (Builtin.bitAnd i j)) := x_op op_and ha hb rv_I0
theorem orI (ha : Is X σ H a (.int i)) (hb : Is X σ H b (.int j)) : Is X σ H (.BinOp a .BitOr b pos) (.int (Builtin.bitOr i j)) := x_op op_or ha hb rv_I0
theorem xorI (ha : Is X σ H a (.int i)) (hb : Is X σ H b (.int j)) : Is X σ H (.BinOp a .BitXor b pos) (.int (Builtin.bitXor i j)) := x_op op_xor ha hb rv_I0
/-- & 1 -/
theorem oddI (ha : Is X σ H a (.int i)) (hb : Is X σ H b (.int 1)) : Is X σ H (.BinOp a .BitAnd b pos) (.int (i % 2)) := (andI ha hb).to (by rw [bitAnd_m1])
theorem oddN (ha : Is X σ H a (nv n)) (hb : Is X σ H b (.int 1)) : Is X σ H (.BinOp a .BitAnd b pos) (nv (n % 2)) := (oddI ha hb).to (congrArg V.int (Int.natCast_emod n 2).symm)

/-! ### comparisons -/
theorem x_cmp {op : CmpOp} {r : R2} (ho : OpR X (compareOp op) r) (ha : Is X σ H a x) (hb : Is X σ H b y) (hr : RV r x y H z) (hm : behindInMarks op b = false) : Is X σ H (.Compare a [op] [b] pos) z := is_of (pe_cmpR ho EW.pe EW.pe hm) (ev_op ha hb hr)
theorem eqI (ha : Is X σ H a (.int i)) (hb : Is X σ H b (.int j)) : Is X σ H (.Compare a [.Eq] [b] pos) (.bl (decide (i = j))) := (x_cmp op_eq ha hb (rv_eq rfl) (nomark _)).to (by rw [dec_int, Bool.beq_eq_decide_eq])
theorem neI (ha : Is X σ H a (.int i)) (hb : Is X σ H b (.int j)) : Is X σ H (.Compare a [.NotEq] [b] pos) (.bl (decide (i ≠ j))) := (x_cmp op_ne ha hb (rv_ne rfl) (nomark _)).to (by rw [dec_int, Bool.beq_eq_decide_eq, decide_not])
theorem ltI (ha : Is X σ H a (.int i)) (hb : Is X σ H b (.int j)) : Is X σ H (.Compare a [.Lt] [b] pos) (.bl (decide (i < j))) := x_cmp op_lt ha hb rv_I0 (nomark _)
theorem leI (ha : Is X σ H a (.int i)) (hb : Is X σ H b (.int j)) : Is X σ H (.Compare a [.LtE] [b] pos) (.bl (decide (i ≤ j))) := x_cmp op_le ha hb rv_I0 (nomark _)
theorem gtI (ha : Is X σ H a (.int i)) (hb : Is X σ H b (.int j)) : Is X σ H (.Compare a [.Gt] [b] pos) (.bl (decide (j < i))) := x_cmp op_gt ha hb rv_I0 (nomark _)
theorem geI (ha : Is X σ H a (.int i)) (hb : Is X σ H b (.int j)) : Is X σ H (.Compare a [.GtE] [b] pos) (.bl (decide (j ≤ i))) := x_cmp op_ge ha hb rv_I0 (nomark _)
theorem eqN (ha : Is X σ H a (nv n)) (hb : Is X σ H b (nv m)) : Is X σ H (.Compare a [.Eq] [b] pos) (.bl (decide (n = m))) := (eqI ha hb).to (by congr 1; exact decide_eq_decide.mpr (by omega))
theorem neN (ha : Is X σ H a (nv n)) (hb : Is X σ H b (nv m)) : Is X σ H (.Compare a [.NotEq] [b] pos) (.bl (decide (n ≠ m))) := (neI ha hb).to (by congr 1; exact decide_eq_decide.mpr (by omega))
theorem ltN (ha : Is X σ H a (nv n)) (hb : Is X σ H b (nv m)) : Is X σ H (.Compare a [.Lt] [b] pos) (.bl (decide (n < m))) := (ltI ha hb).to (by congr 1; exact decide_eq_decide.mpr (by omega))
theorem leN (ha : Is X σ H a (nv n)) (hb : Is X σ H b (nv m)) : Is X σ H (.Compare a [.LtE] [b] pos) (.bl (decide (n ≤ m))) := (leI ha hb).to (by congr 1; exact decide_eq_decide.mpr (by omega))
theorem gtN (ha : Is X σ H a (nv n)) (hb : Is X σ H b (nv m)) : Is X σ H (.Compare a [.Gt] [b] pos) (.bl (decide (m < n))) := (gtI ha hb).to (by congr 1; exact decide_eq_decide.mpr (by omega))
theorem geN (ha : Is X σ H a (nv n)) (hb : Is X σ H b (nv m)) : Is X σ H (.Compare a [.GtE] [b] pos) (.bl (decide (m ≤ n))) := (geI ha hb).to (by congr 1; exact decide_eq_decide.mpr (by omega))
theorem eqB {k l : Bool} (ha : Is X σ H a (.bl k)) (hb : Is X σ H b (.bl l)) : Is X σ H (.Compare a [.Eq] [b] pos) (.bl (k == l)) := (x_cmp op_eq ha hb (rv_eq rfl) (nomark _)).to (by rw [dec_bl])
theorem neB {k l : Bool} (ha : Is X σ H a (.bl k)) (hb : Is X σ H b (.bl l)) : Is X σ H (.Compare a [.NotEq] [b] pos) (.bl (k != l)) := (x_cmp op_ne ha hb (rv_ne rfl) (nomark _)).to (by rw [dec_bl] <;> rfl)
end
/-! ### and, or, not, if -/
theorem x_or {k l : Bool} {bs : List Expr} (ha : Is X σ H a (.bl k)) (hb : Is X σ H (.BoolOp .Or (b :: bs) pos) (.bl l)) : Is X σ H (.BoolOp .Or (a :: b :: bs) pos) (.bl (k || l)) := is_of (pe_or EW.pe EW.pe) (ev_orV ha fun _ => hb)
theorem x_and {k l : Bool} {bs : List Expr} (ha : Is X σ H a (.bl k)) (hb : Is X σ H (.BoolOp .And (b :: bs) pos) (.bl l)) : Is X σ H (.BoolOp .And (a :: b :: bs) pos) (.bl (k && l)) := is_of (pe_and EW.pe EW.pe) (ev_andV ha fun _ => hb)
theorem x_one {op : BoolOp} (ha : Is X σ H a v) : Is X σ H (.BoolOp op [a] pos) v := is_of (pe_one EW.pe) ha
theorem x_or2 {k l : Bool} (ha : Is X σ H a (.bl k)) (hb : Is X σ H b (.bl l)) : Is X σ H (.BoolOp .Or [a, b] pos) (.bl (k || l)) := x_or ha (x_one hb)
theorem x_and2 {k l : Bool} (ha : Is X σ H a (.bl k)) (hb : Is X σ H b (.bl l)) : Is X σ H (.BoolOp .And [a, b] pos) (.bl (k && l)) := x_and ha (x_one hb)
theorem x_not {k : Bool} (ha : Is X σ H a (.bl k)) : Is X σ H (.UnaryOp .Not a pos) (.bl (!k)) := is_of (pe_not EW.pe) (ev_notV ha)
theorem x_ifE {k : Bool} (hc : Tru X σ H c k) (h1 : k = true → Is X σ H a v) (h2 : k = false → Is X σ H b v) : Is X σ H (.IfExp c a b pos) v := is_of (pe_ifExp TW.pt EW.pe EW.pe) (ev_if hc h1 h2)
/-- a test: an expression that gives True or False -/
theorem t_val {k : Bool} (h : Is X σ H e (.bl k)) (he : ∀ whole, isTrue e X.env whole = (do let v ← whole; standAt e.pos; holding [v] (truthy v)) := by intro _; rfl) : Tru X σ H e k := fun H1 e1 Q q => ⟨_, pt_val EW.pe he, et_B h H1 e1 Q q⟩
theorem t_cmpR {k : Bool} {op : CmpOp} {r : R2} (ho : OpR X (compareOp op) r) (ha : Is X σ H a x) (hb : Is X σ H b y) (hr : RV r x y H (.bl k)) (hm : behindInMarks op b = false) : Tru X σ H (.Compare a [op] [b] pos) k := fun H1 e1 Q q => ⟨_, pt_cmpR ho EW.pe EW.pe hm, et_test (ev_op ha hb hr) H1 e1 Q q⟩
theorem teqN {n m : Nat} (ha : Is X σ H a (nv n)) (hb : Is X σ H b (nv m)) : Tru X σ H (.Compare a [.Eq] [b] pos) (decide (n = m)) := (t_cmpR op_eq ha hb (rv_eq rfl) (nomark _)).to (by rw [dec_int, Bool.beq_eq_decide_eq]; exact decide_eq_decide.mpr (by omega))
theorem tltN {n m : Nat} (ha : Is X σ H a (nv n)) (hb : Is X σ H b (nv m)) : Tru X σ H (.Compare a [.Lt] [b] pos) (decide (n < m)) := (t_cmpR (k := decide ((n : Int) < (m : Int))) op_lt ha hb rv_I0 (nomark _)).to (decide_eq_decide.mpr (by omega))
theorem tgtN {n m : Nat} (ha : Is X σ H a (nv n)) (hb : Is X σ H b (nv m)) : Tru X σ H (.Compare a [.Gt] [b] pos) (decide (m < n)) := (t_cmpR (k := decide ((m : Int) < (n : Int))) op_gt ha hb rv_I0 (nomark _)).to (decide_eq_decide.mpr (by omega))
theorem tgeN {n m : Nat} (ha : Is X σ H a (nv n)) (hb : Is X σ H b (nv m)) : Tru X σ H (.Compare a [.GtE] [b] pos) (decide (m ≤ n)) := (t_cmpR (k := decide ((m : Int) ≤ (n : Int))) op_ge ha hb rv_I0 (nomark _)).to (decide_eq_decide.mpr (by omega))
theorem tneN {n m : Nat} (ha : Is X σ H a (nv n)) (hb : Is X σ H b (nv m)) : Tru X σ H (.Compare a [.NotEq] [b] pos) (decide (n ≠ m)) := (t_cmpR op_ne ha hb (rv_ne rfl) (nomark _)).to (by rw [dec_int, Bool.beq_eq_decide_eq, ← decide_not]; exact decide_eq_decide.mpr (by omega))
theorem tneB {k l : Bool} (ha : Is X σ H a (.bl k)) (hb : Is X σ H b (.bl l)) : Tru X σ H (.Compare a [.NotEq] [b] pos) (k != l) := (t_cmpR op_ne ha hb (rv_ne rfl) (nomark _)).to (by rw [dec_bl] <;> rfl)
theorem t_or {k l : Bool} {bs : List Expr} (ha : Tru X σ H a k) (hb : k = false → Brn X σ H (.BoolOp .Or (b :: bs) pos) l) : Brn X σ H (.BoolOp .Or (a :: b :: bs) pos) (k || l) := fun H1 e1 Q q => ⟨_, pw_or TW.pt BW.pw, et_or ha hb H1 e1 Q q⟩
theorem t_or1 {k : Bool} (ha : Tru X σ H a k) : Brn X σ H (.BoolOp .Or [a] pos) k := fun H1 e1 Q q => ⟨_, pw_or1 TW.pt, ha H1 e1 Q q⟩
theorem t_or2 {k l : Bool} (ha : Tru X σ H a k) (hb : k = false → Tru X σ H b l) : Tru X σ H (.BoolOp .Or [a, b] pos) (k || l) := fun H1 e1 Q q => ⟨_, PW.pt BW.pw, t_or (bs := []) ha (fun hk => t_or1 (hb hk)) H1 e1 Q q⟩
theorem t_not {k : Bool} (ha : Tru X σ H a k) : Tru X σ H (.UnaryOp .Not a pos) (!k) := fun H1 e1 Q q => ⟨_, pt_not TW.pt, et_not ha H1 e1 Q q⟩

/-! ### arguments -/
theorem a0 : As X σ H [] [] := fun H1 e1 Q q => ⟨_, pa_nil, ea_nil H1 e1 Q q⟩
theorem ac (ha : Is X σ H e v) (hr : As X σ H es vs) (hs : starEach (e :: es) X.env = (false, eval e X.env) :: starEach es X.env := by rfl) : As X σ H (e :: es) (v :: vs) := fun H1 e1 Q q => ⟨_, pa_cons EW.pe AW.pa hs, ea_cons ha hr H1 e1 Q q⟩
theorem ag (ha : Gets X σ H e P) (hm : ∀ v H1 H2, Ex H1 H2 → P v H1 → P v H2) (hr : AGets X σ H es R) (hs : starEach (e :: es) X.env = (false, eval e X.env) :: starEach es X.env := by rfl) :
    AGets X σ H (e :: es) (fun vs H => ∃ v r, vs = v :: r ∧ P v H ∧ R r H) := fun H1 e1 Q q => ⟨_, pa_cons EW.pe AW.pa hs, ha H1 e1 _ fun v H2 e2 hp => hr H2 (e1.trans e2) _ fun r H3 e3 hq => q (v :: r) H3 (e2.trans e3) ⟨v, r, rfl, hm v H2 H3 e3 hp, hq⟩⟩
theorem a1 (ha : Is X σ H e v) (hs : starEach [e] X.env = (false, eval e X.env) :: starEach [] X.env := by rfl) : As X σ H [e] [v] := ac ha a0 hs

/-! ### fields of an instance -/
theorem x_fld {q C dx : Addr} {fs : List (Str × V)} {f : Str} (ha : Is X σ H o (.ref q)) (hH : H q = some (.ins C dx fs)) (hc : Cls X.K C) (hn : NoAttr X.K C f) (hl : fs.lookup f = some v) (hb : attributeBase o f X.env (eval o X.env) = eval o X.env := by rfl) :
    Is X σ H (.Attribute o f pos) v := is_of (pe_fld EW.pe hb) fun H1 e1 Q q => ha H1 e1 _ fun H2 e2 => ⟨_, C, dx, fs, v, rfl, (e1.trans e2) _ _ hH, hc, hn, hl, q H2 e2⟩
end

/-! ### promises -/
/-- called so, while so it stands: hands back what post tells of; all that stood stands -/
def Pr {ι : Type} (args : ι → List V) (pre : ι → Hp → Prop) (post : ι → V → Hp → Prop) : Sp := fun vs H Q _ => ∃ i, vs = args i ∧ pre i H ∧ ∀ v H2, Ex H H2 → post i v H2 → Q v H2
/-- .. hands back one value -/
def Pv {ι : Type} (args : ι → List V) (pre : ι → Hp → Prop) (val : ι → V) : Sp := fun vs H Q _ => ∃ i, vs = args i ∧ pre i H ∧ ∀ H2, Ex H H2 → Q (val i) H2
/-- the def that the module's name n stands for keeps sp -/
structure Has (P : Program) (w : World) (K : PySem.W.Frag) (mg : Str → Option Value) (base : Heap) (k : Nat) (n : Str) (ps : List Str) (sp : Sp) : Prop where
  fn : ∃ fd, FnOk P w K mg base CX0 k (He.ga K n) fd ps sp ∧ Binds K fd ps []
  kp : PySem.W.keepIn K (.ref (He.ga K n)) = true
  gl : mg n = some (.ref (He.ga K n))
/-- the same of a method m of the class n -/
structure HasM (P : Program) (w : World) (K : PySem.W.Frag) (mg : Str → Option Value) (base : Heap) (k : Nat) (n m : Str) (ps : List Str) (sp : Sp) : Prop where
  fn : ∃ fd, FnOk P w K mg base CX0 k (He.ma K (He.ga K n) m) fd ps sp ∧ Binds K fd ps []
  me : Meth K (He.ga K n) m (He.ma K (He.ga K n) m)

section
variable {X : Cx} {σ : St} {H H' : Hp} {e a b c o : Expr} {es : List Expr} {v x y z : V} {vs : List V} {P P' : V → Hp → Prop} {R R' : List V → Hp → Prop} {pos p p' apos : Pos} {D : Ends} {rest : List Stmt}
/-- f(e, ..) -/
theorem x_call {k : Nat} {n : Str} {ps : List Str} {sp : Sp} (F : Has X.prog X.w X.K X.mg X.base k n ps sp) (hr : Room k X.A) (ha : AGets X σ H (e :: es) R) (h : ∀ vs H1, Ex H H1 → R vs H1 → ∀ Q : VK, (∀ v H2, Ex H1 H2 → P v H2 → Q v H2) → sp vs H1 Q E0)
    (hg : Gl X n := by rfl) (hdb : (n == ("__debug__" : Str)) = false := by decide) (he : starEach (e :: es) X.env = (false, eval e X.env) :: starEach es X.env := by rfl) (hpl : (backTo pos (starEach es X.env)).any (·.1) = false := by rfl) :
    Gets X σ H (.Call (.Name n p) (e :: es) [] pos) P := fun H1 e1 Q q => by
  obtain ⟨fd, F1, hb⟩ := F.fn
  refine ⟨_, pe_call (dvs := []) F1 hr hg F.gl F.kp hb .nil pass0 AW.pa hdb he hpl, ha H1 e1 _ fun vs H2 e2 hv => ?_⟩
  rw [List.append_nil]
  exact h vs H2 (e1.trans e2) hv Q fun v H3 e3 hp => q v H3 (e2.trans e3) hp
theorem x_pr {ι : Type} {args : ι → List V} {pre : ι → Hp → Prop} {post : ι → V → Hp → Prop} {k : Nat} {n : Str} {ps : List Str} (F : Has X.prog X.w X.K X.mg X.base k n ps (Pr args pre post)) (hr : Room k X.A) (i : ι) (ha : As X σ H (e :: es) (args i)) (hp : ∀ H1, Ex H H1 → pre i H1)
    (hg : Gl X n := by rfl) (hdb : (n == ("__debug__" : Str)) = false := by decide) (he : starEach (e :: es) X.env = (false, eval e X.env) :: starEach es X.env := by rfl) (hpl : (backTo pos (starEach es X.env)).any (·.1) = false := by rfl) :
    Gets X σ H (.Call (.Name n p) (e :: es) [] pos) (post i) := x_call F hr ha.gets (fun vs H1 e1 hv Q q => ⟨i, hv, hp H1 e1, q⟩) hg hdb he hpl
theorem x_pv {ι : Type} {args : ι → List V} {pre : ι → Hp → Prop} {val : ι → V} {k : Nat} {n : Str} {ps : List Str} (F : Has X.prog X.w X.K X.mg X.base k n ps (Pv args pre val)) (hr : Room k X.A) (i : ι) (ha : As X σ H (e :: es) (args i)) (hp : ∀ H1, Ex H H1 → pre i H1)
    (hg : Gl X n := by rfl) (hdb : (n == ("__debug__" : Str)) = false := by decide) (he : starEach (e :: es) X.env = (false, eval e X.env) :: starEach es X.env := by rfl) (hpl : (backTo pos (starEach es X.env)).any (·.1) = false := by rfl) :
    Is X σ H (.Call (.Name n p) (e :: es) [] pos) (val i) := Gets.is (x_call F hr ha.gets (fun vs H1 e1 hv Q q => ⟨i, hv, hp H1 e1, fun H2 e2 => q _ H2 e2 rfl⟩) hg hdb he hpl)
/-- o.m(e, ..) -/
theorem x_meth {pl : Sem Bool} {k : Nat} {n m : Str} {ps : List Str} {sp : Sp} {q dx : Addr} {fs : List (Str × V)} (F : HasM X.prog X.w X.K X.mg X.base k n m ps sp) (hr : Room k X.A) (ho : Is X σ H o (.ref q)) (hH : H q = some (.ins (He.ga X.K n) dx fs)) (hc : Cls X.K (He.ga X.K n)) (hl : fs.lookup m = none)
    (ha : As X σ H (e :: es) vs) (h : ∀ H1, Ex H H1 → ∀ Q : VK, (∀ v H2, Ex H1 H2 → P v H2 → Q v H2) → sp (.ref q :: vs) H1 Q E0)
    (hst : starEach (e :: es) X.env = (false, eval e X.env) :: starEach es X.env := by rfl) (hpl : (backTo pos (starEach es X.env)).any (·.1) = false := by rfl)
    (ht : eval (.Call (.Attribute o m apos) (e :: es) [] pos) X.env = (do
      let ov ← eval o X.env
      standAt apos.atName
      let (f, first) ← holding [ov] (getMethod ov m pl)
      callWith pos f first (backTo pos (starEach (e :: es) X.env)) (backToKw pos (keywordEach [] X.env))) := by rfl) :
    Gets X σ H (.Call (.Attribute o m apos) (e :: es) [] pos) P := fun H1 e1 Q k1 => by
  obtain ⟨fd, F1, hb⟩ := F.fn
  refine ⟨_, pe_meth (pl := pl) (dvs := []) EW.pe hc F.me F1 hr hb .nil pass0 AW.pa hst hpl ht, ho H1 e1 _ fun H2 e2 => ⟨q, dx, fs, rfl, (e1.trans e2) _ _ hH, hl, ha H2 (e1.trans e2) _ fun H3 e3 => ?_⟩⟩
  rw [List.append_nil]
  exact h H3 ((e1.trans e2).trans e3) Q fun v H4 e4 hp => k1 v H4 ((e2.trans e3).trans e4) hp
/-- o.m() -/
theorem x_meth0 {pl : Sem Bool} {k : Nat} {n m : Str} {ps : List Str} {sp : Sp} {q dx : Addr} {fs : List (Str × V)} (F : HasM X.prog X.w X.K X.mg X.base k n m ps sp) (hr : Room k X.A) (ho : Is X σ H o (.ref q)) (hH : H q = some (.ins (He.ga X.K n) dx fs)) (hc : Cls X.K (He.ga X.K n)) (hl : fs.lookup m = none)
    (h : ∀ H1, Ex H H1 → ∀ Q : VK, (∀ v H2, Ex H1 H2 → P v H2 → Q v H2) → sp [.ref q] H1 Q E0)
    (ht : eval (.Call (.Attribute o m apos) [] [] pos) X.env = (do
      let ov ← eval o X.env
      standAt apos.atName
      let (f, first) ← holding [ov] (getMethod ov m pl)
      callWith pos f first (backTo pos (starEach [] X.env)) (backToKw pos (keywordEach [] X.env))) := by rfl) :
    Gets X σ H (.Call (.Attribute o m apos) [] [] pos) P := fun H1 e1 Q k1 => by
  obtain ⟨fd, F1, hb⟩ := F.fn
  exact ⟨_, pe_meth0 (pl := pl) (dvs := []) EW.pe hc F.me F1 hr hb .nil pass0 ht, ho H1 e1 _ fun H2 e2 => ⟨q, dx, fs, rfl, (e1.trans e2) _ _ hH, hl, h H2 (e1.trans e2) Q fun v H4 e4 hp => k1 v H4 (e2.trans e4) hp⟩⟩
/-- a built-in of one argument, by its rule -/
theorem x_callB {id : String} {r : List V → Hp → VK → Prop} {n : Str} (hc : CallR X (.builtin id) r) (hm : X.mg n = none) (hv : bootBuiltins n = some (.builtin id)) (ha : As X σ H (e :: es) vs) (h : ∀ H1, Ex H H1 → ∀ Q : VK, (∀ v H2, Ex H1 H2 → P v H2 → Q v H2) → r vs H1 Q)
    (hg : Gl X n := by rfl) (hn : n ≠ "__name__" := by decide) (hdb : (n == ("__debug__" : Str)) = false := by decide) (he : starEach (e :: es) X.env = (false, eval e X.env) :: starEach es X.env := by rfl) (hpl : (backTo pos (starEach es X.env)).any (·.1) = false := by rfl) :
    Gets X σ H (.Call (.Name n p) (e :: es) [] pos) P := fun H1 e1 Q q => ⟨_, pe_callB hc hg hm hv AW.pa hn hdb he hpl, ha H1 e1 _ fun H2 e2 => h H2 (e1.trans e2) Q fun v H3 e3 hp => q v H3 (e2.trans e3) hp⟩
theorem x_callTy {T : String} {r : List V → Hp → VK → Prop} {n : Str} (hc : CallR X (.type T) r) (hm : X.mg n = none) (hv : bootBuiltins n = some (.type T)) (ha : As X σ H (e :: es) vs) (h : ∀ H1, Ex H H1 → ∀ Q : VK, (∀ v H2, Ex H1 H2 → P v H2 → Q v H2) → r vs H1 Q)
    (hg : Gl X n := by rfl) (hn : n ≠ "__name__" := by decide) (hdb : (n == ("__debug__" : Str)) = false := by decide) (he : starEach (e :: es) X.env = (false, eval e X.env) :: starEach es X.env := by rfl) (hpl : (backTo pos (starEach es X.env)).any (·.1) = false := by rfl) :
    Gets X σ H (.Call (.Name n p) (e :: es) [] pos) P := fun H1 e1 Q q => ⟨_, pe_callTy hc hg hm hv AW.pa hn hdb he hpl, ha H1 e1 _ fun H2 e2 => h H2 (e1.trans e2) Q fun v H3 e3 hp => q v H3 (e2.trans e3) hp⟩
/-- int(a truth) -/
theorem x_intB {k : Bool} (hm : X.mg "int" = none) (ha : Is X σ H e (.bl k)) (hg : Gl X "int" := by rfl) (hs : starEach [e] X.env = (false, eval e X.env) :: starEach [] X.env := by rfl) (hpl : (backTo pos (starEach [] X.env)).any (·.1) = false := by rfl) :
    Is X σ H (.Call (.Name "int" p) [e] [] pos) (nv (if k = true then 1 else 0)) :=
  Gets.is (x_callTy call_int1 hm (by decide +kernel) (a1 ha hs) (fun H1 _ Q q => .inr ⟨k, rfl, by
    have z := q (nv (if k = true then 1 else 0)) H1 (Ex.refl _) rfl
    cases k <;> exact z⟩) hg (by decide) (by decide) hs hpl)
/-- abs(a number) -/
theorem x_abs {i : Int} (hm : X.mg "abs" = none) (ha : Is X σ H e (.int i)) (hg : Gl X "abs" := by rfl) (hs : starEach [e] X.env = (false, eval e X.env) :: starEach [] X.env := by rfl) (hpl : (backTo pos (starEach [] X.env)).any (·.1) = false := by rfl) :
    Is X σ H (.Call (.Name "abs" p) [e] [] pos) (nv i.natAbs) :=
  Gets.is (x_callB call_abs hm (by decide +kernel) (a1 ha hs) (fun H1 _ Q q => ⟨i, rfl, by
    have z := q (nv i.natAbs) H1 (Ex.refl _) rfl
    have k : (if i < 0 then -i else i) = ((i.natAbs : Nat) : Int) := by split <;> omega
    rw [k]
    exact z⟩) hg (by decide) (by decide) hs hpl)

/-! ### displays -/
theorem x_tup (ha : AGets X σ H es R) (hl : ∀ vs H1, R vs H1 → vs.length ≤ 1000) : ∀ {ct}, Gets X σ H (.Tuple es ct pos) (fun v H => ∃ q vs Hq, v = .ref q ∧ H q = some (.tup vs) ∧ Ex Hq H ∧ R vs Hq) := fun {ct} H1 e1 Q q =>
  ⟨_, pe_tup AW.pa, ha H1 e1 _ fun vs H2 e2 hv => ⟨Nat.le_trans (hl vs H2 hv) (by decide), fun w hw => q _ _ (e2.trans (Ex.new hw)) ⟨w, vs, H2, rfl, upd_same, Ex.new hw, hv⟩⟩⟩
theorem x_lst (ha : AGets X σ H es R) (hl : ∀ vs H1, R vs H1 → vs.length ≤ 1000) : Gets X σ H (.List es pos) (fun v H => ∃ q vs Hq, v = .ref q ∧ H q = some (.lst vs) ∧ Ex Hq H ∧ R vs Hq) := fun H1 e1 Q q =>
  ⟨_, pe_lst AW.pa, ha H1 e1 _ fun vs H2 e2 hv => ⟨Nat.le_trans (hl vs H2 hv) (by decide), fun w hw => q _ _ (e2.trans (Ex.new hw)) ⟨w, vs, H2, rfl, upd_same, Ex.new hw, hv⟩⟩⟩

/-! ### statements -/
theorem r_nil (h : ∀ H1, Ex H H1 → D.nx σ H1) : Runs X H [] D σ := fun H1 e1 => ⟨_, pss_nil, h H1 e1⟩
theorem r_set (i : Nat) {n : Str} (he : Is X σ H e v) (k : Runs X H rest D (σ.set i (some v))) (hN : X.N.Nodup) (hi : X.N[i]? = some n := by rfl) (hx : Loc X.env.scope n := by first | exact Or.inl rfl | exact Or.inr rfl) (hs : swapsWith e (some (.Name n p')) pos.line X.env = pure false := by rfl)
    (hf : X.fn n = true ∨ X.env.scope.names.lookup n = some .local := by first | exact .inl rfl | exact .inr rfl) : Runs X H (.Assign [.Name n p'] e pos :: rest) D σ := fun H1 e1 => ⟨_, pss_cons (ps_set hN hi hx EW.pe hs hf) SW.pss, he H1 e1 _ fun H2 e2 => k H2 (e1.trans e2)⟩
theorem r_setG (i : Nat) {n : Str} (he : Gets X σ H e P) (k : ∀ v H1, Ex H H1 → P v H1 → Runs X H1 rest D (σ.set i (some v))) (hN : X.N.Nodup) (hi : X.N[i]? = some n := by rfl) (hx : Loc X.env.scope n := by first | exact Or.inl rfl | exact Or.inr rfl) (hs : swapsWith e (some (.Name n p')) pos.line X.env = pure false := by rfl)
    (hf : X.fn n = true ∨ X.env.scope.names.lookup n = some .local := by first | exact .inl rfl | exact .inr rfl) : Runs X H (.Assign [.Name n p'] e pos :: rest) D σ := fun H1 e1 => ⟨_, pss_cons (ps_set hN hi hx EW.pe hs hf) SW.pss, he H1 e1 _ fun v H2 e2 hp => k v H2 (e1.trans e2) hp H2 (Ex.refl _)⟩
theorem r_ret (he : Gets X σ H e P) (k : ∀ v H1, Ex H H1 → P v H1 → D.rt v H1) : Runs X H [.Return (some e) pos] D σ := fun H1 e1 => ⟨_, pss_one (ps_ret EW.pe), he H1 e1 _ fun v H2 e2 hp => k v H2 (e1.trans e2) hp⟩
theorem r_retV (he : Is X σ H e v) (k : ∀ H1, Ex H H1 → D.rt v H1) : Runs X H [.Return (some e) pos] D σ := fun H1 e1 => ⟨_, pss_one (ps_ret EW.pe), he H1 e1 _ fun H2 e2 => k H2 (e1.trans e2)⟩
theorem r_if {k : Bool} {b1 b2 : List Stmt} (hc : Tru X σ H c k) (h1 : k = true → Runs X H b1 { D with nx := SW X rest D } σ) (h2 : k = false → Runs X H b2 { D with nx := SW X rest D } σ) : Runs X H (.If c b1 b2 pos :: rest) D σ := fun H1 e1 =>
  ⟨_, pss_cons (ps_if TW.pt SW.pss SW.pss) SW.pss, hc H1 e1 _ fun H2 e2 => by
    cases k with
    | true =>
      rw [if_pos rfl]
      exact h1 rfl H2 (e1.trans e2)
    | false =>
      rw [if_neg Bool.false_ne_true]
      exact h2 rfl H2 (e1.trans e2)⟩
/-- an if that ends by a return, without else -/
theorem r_when {k : Bool} {b1 : List Stmt} (hc : Tru X σ H c k) (h1 : k = true → Runs X H b1 { D with nx := SW X rest D } σ) (h2 : k = false → Runs X H rest D σ) : Runs X H (.If c b1 [] pos :: rest) D σ := r_if hc h1 fun hk => r_nil fun H1 e1 => h2 hk H1 e1
/-- a loop over a tuple, its state told by the turn -/
theorem r_forT (j : Nat) {n : Str} {q : Addr} {xs : List V} {body : List Stmt} (I : Nat → St → Prop) (he : Is X σ H e (.ref q)) (hx : SqT X.K H q xs) (hp : PassesOwn (model X.prog X.w) X.A X.env X.xe) (hN : X.N.Nodup) (h0 : I 0 σ)
    (hs : ∀ i x σ' H1, Ex H H1 → xs[i]? = some x → I i σ' → ∀ D' : Ends, (∀ σ'' H2, I (i + 1) σ'' → Ex H1 H2 → D'.nx σ'' H2) → Runs X H1 body D' (σ'.set j (some x))) (k : ∀ σ' H1, Ex H H1 → I xs.length σ' → Runs X H1 rest D σ')
    (hi : X.N[j]? = some n := by rfl) (hl : Loc X.env.scope n := by first | exact Or.inl rfl | exact Or.inr rfl) (hc : X.calm = true := by rfl) (hf : X.fn n = true ∨ X.env.scope.names.lookup n = some .local := by first | exact .inl rfl | exact .inr rfl)
    (hfs : ∀ x, foldedSetIterable e X.env x = pure x := by intro _; rfl) : Runs X H (.For (.Name n p) e body [] pos :: rest) D σ := fun H1 e1 =>
  ⟨_, pss_cons (ps_for hp hc (pi_tup EW.pe) (pg_name hN hi hl hf) SW.pss hfs) SW.pss, he H1 e1 _ fun H2 e2 => ⟨q, rfl, ⟨xs, ex_t (e1.trans e2) hx⟩,
    for_tup (K := X.K) (a := q) (xs := xs) (fun i σ' H' => I i σ' ∧ Ex H H') ⟨h0, e1.trans e2⟩ (fun i σ' H' _ ⟨_, ee⟩ => ex_t ee hx)
      (fun i x σ' H' hx' ⟨hI, ee⟩ => by
        refine hs i x σ' H' ee hx' hI _ ?_ H' (Ex.refl _)
        exact fun σ'' H2 hI2 e3 => ⟨hI2, ee.trans e3⟩)
      (fun σ' H' ⟨hI, ee⟩ => k σ' H' ee hI H' (Ex.refl _))⟩⟩
/-- the block runs as another: the syntax is the same -/
theorem Runs.sw (h : Runs X H rest D σ) : SW X rest D σ H := h H (Ex.refl H)
end

/-! ### a def of the top -/
section
variable {P : Program} {w : World} {K : PySem.W.Frag} {mg : Str → Option Value} {base : Heap}
/-- THE RULE: what the def d keeps, by its body -/
theorem has_of (d : He.DefD) {n : Str} {N ps : List Str} {k : Nat} {sp : Sp} (hF : ∃ fd, FunD K d.name d.qual d.params d.body d.scope (d.dvs K) (d.kws K) (He.fAd K d.at_) fd) (hg : mg n = some (.ref (He.ga K n))) (S : FnScope N ps d.scope)
    (hb : ∀ (kV doc pm : Value) (an : Option Addr) (cdv ct : Value) (us : List Value), us.length = ps.length → bindArgs (PySem.W.fnOf d.name d.qual d.params d.body d.scope .none kV doc pm an cdv ct) ⟨us, []⟩ = pure (ps.zip us)) (len : ∀ vs H Q E, sp vs H Q E → vs.length = ps.length)
    (body : ∀ (cdv : Value) (A : Around) (outer : List Env) (s : Shared) (H : Hp) (vs : List V) (Q : VK) (E : XK), Room k (A.deeper (envOfC d.qual d.scope s.heap.objs.size (He.ga K n) cdv)) → sp vs H Q E →
      Runs (cxOf CX0 P w K mg base N d.qual d.scope (He.ga K n) cdv A outer s H E).nox H d.body { nx := fun _ H' => Q .non H', rt := Q } (start N vs))
    (ha : d.at_ = (n, none) := by rfl) (hd0 : d.dfl = [] := by rfl) (hk0 : d.kwd = [] := by rfl) : Has P w K mg base (k + 1) n ps sp := by
  obtain ⟨fd, F⟩ := hF
  have e1 : d.dvs K = [] := by unfold He.DefD.dvs; rw [hd0] <;> rfl
  have e2 : d.kws K = [] := by unfold He.DefD.kws; rw [hk0] <;> rfl
  have e3 : He.fAd K d.at_ = He.ga K n := by rw [ha] <;> rfl
  rw [e1, e2, e3] at F
  exact ⟨⟨fd, F.ok S len (fun cdv A outer s H vs Q E hr h => (body cdv A outer s H vs Q E hr h).sw.nox), F.bindsN hb⟩, F.kp, hg⟩
/-- of the row's own def: for every base -/
theorem law_of (d : He.DefD) {n : Str} {N ps : List Str} {k : Nat} {sp : Sp} (hF : ∃ fd, FunD K d.name d.qual d.params d.body d.scope (d.dvs K) (d.kws K) (He.fAd K d.at_) fd) (S : FnScope N ps d.scope)
    (hb : ∀ (kV doc pm : Value) (an : Option Addr) (cdv ct : Value) (us : List Value), us.length = ps.length → bindArgs (PySem.W.fnOf d.name d.qual d.params d.body d.scope .none kV doc pm an cdv ct) ⟨us, []⟩ = pure (ps.zip us)) (len : ∀ vs H Q E, sp vs H Q E → vs.length = ps.length)
    (body : ∀ (base : Heap) (cdv : Value) (A : Around) (outer : List Env) (s : Shared) (H : Hp) (vs : List V) (Q : VK) (E : XK), Room k (A.deeper (envOfC d.qual d.scope s.heap.objs.size (He.ga K n) cdv)) → sp vs H Q E →
      Runs (cxOf CX0 P w K mg base N d.qual d.scope (He.ga K n) cdv A outer s H E).nox H d.body { nx := fun _ H' => Q .non H', rt := Q } (start N vs))
    (ha : d.at_ = (n, none) := by rfl) (hd0 : d.dfl = [] := by rfl) (hk0 : d.kwd = [] := by rfl) :
    ∃ fd, (∀ (s : Shared) (us : List Value), us.length = ps.length → BindsTo s fd ⟨us, []⟩ (ps.zip us)) ∧ ∀ base : Heap, FnOk P w K mg base CX0 (k + 1) (He.ga K n) fd ps sp := by
  obtain ⟨fd, F⟩ := hF
  have e1 : d.dvs K = [] := by unfold He.DefD.dvs; rw [hd0] <;> rfl
  have e2 : d.kws K = [] := by unfold He.DefD.kws; rw [hk0] <;> rfl
  have e3 : He.fAd K d.at_ = He.ga K n := by rw [ha] <;> rfl
  rw [e1, e2, e3] at F
  exact ⟨fd, F.bindsA hb, fun base => F.ok S len (fun cdv A outer s H vs Q E hr h => (body base cdv A outer s H vs Q E hr h).sw.nox)⟩
/-- the same of a method -/
theorem hasM_of (d : He.DefD) {n m : Str} {N ps : List Str} {k : Nat} {sp : Sp} (hF : ∃ fd, FunD K d.name d.qual d.params d.body d.scope (d.dvs K) (d.kws K) (He.fAd K d.at_) fd) (hm : Meth K (He.ga K n) m (He.ma K (He.ga K n) m)) (S : FnScope N ps d.scope)
    (hb : ∀ (kV doc pm : Value) (an : Option Addr) (cdv ct : Value) (us : List Value), us.length = ps.length → bindArgs (PySem.W.fnOf d.name d.qual d.params d.body d.scope .none kV doc pm an cdv ct) ⟨us, []⟩ = pure (ps.zip us)) (len : ∀ vs H Q E, sp vs H Q E → vs.length = ps.length)
    (body : ∀ (cdv : Value) (A : Around) (outer : List Env) (s : Shared) (H : Hp) (vs : List V) (Q : VK) (E : XK), Room k (A.deeper (envOfC d.qual d.scope s.heap.objs.size (He.ma K (He.ga K n) m) cdv)) → sp vs H Q E →
      Runs (cxOf CX0 P w K mg base N d.qual d.scope (He.ma K (He.ga K n) m) cdv A outer s H E).nox H d.body { nx := fun _ H' => Q .non H', rt := Q } (start N vs))
    (ha : d.at_ = (n, some m) := by rfl) (hd0 : d.dfl = [] := by rfl) (hk0 : d.kwd = [] := by rfl) : HasM P w K mg base (k + 1) n m ps sp := by
  obtain ⟨fd, F⟩ := hF
  have e1 : d.dvs K = [] := by unfold He.DefD.dvs; rw [hd0] <;> rfl
  have e2 : d.kws K = [] := by unfold He.DefD.kws; rw [hk0] <;> rfl
  have e3 : He.fAd K d.at_ = He.ma K (He.ga K n) m := by rw [ha] <;> rfl
  rw [e1, e2, e3] at F
  exact ⟨⟨fd, F.ok S len (fun cdv A outer s H vs Q E hr h => (body cdv A outer s H vs Q E hr h).sw.nox), F.bindsN hb⟩, hm⟩
end

/-! ### defs that may raise; methods that make -/
/-- as Has, of a def that may let an exception out -/
structure HasX (P : Program) (w : World) (K : PySem.W.Frag) (mg : Str → Option Value) (base : Heap) (k : Nat) (n : Str) (ps : List Str) (sp : Sp) : Prop where
  fn : ∃ fd, FnOk P w K mg base (L2.CX P w) k (He.ga K n) fd ps sp ∧ Binds K fd ps []
  kp : PySem.W.keepIn K (.ref (He.ga K n)) = true
  gl : mg n = some (.ref (He.ga K n))
section
variable {P : Program} {w : World} {K : PySem.W.Frag} {mg : Str → Option Value} {base : Heap}
theorem hasX_of (d : He.DefD) {n : Str} {N ps : List Str} {k : Nat} {sp : Sp} (hF : ∃ fd, FunD K d.name d.qual d.params d.body d.scope (d.dvs K) (d.kws K) (He.fAd K d.at_) fd) (hg : mg n = some (.ref (He.ga K n))) (S : FnScope N ps d.scope)
    (hb : ∀ (kV doc pm : Value) (an : Option Addr) (cdv ct : Value) (us : List Value), us.length = ps.length → bindArgs (PySem.W.fnOf d.name d.qual d.params d.body d.scope .none kV doc pm an cdv ct) ⟨us, []⟩ = pure (ps.zip us)) (len : ∀ vs H Q E, sp vs H Q E → vs.length = ps.length)
    (body : ∀ (cdv : Value) (A : Around) (outer : List Env) (s : Shared) (H : Hp) (vs : List V) (Q : VK) (E : XK), Room k (A.deeper (envOfC d.qual d.scope s.heap.objs.size (He.ga K n) cdv)) → sp vs H Q E →
      Runs (cxOf (L2.CX P w) P w K mg base N d.qual d.scope (He.ga K n) cdv A outer s H E) H d.body { nx := fun _ H' => Q .non H', rt := Q } (start N vs))
    (ha : d.at_ = (n, none) := by rfl) (hd0 : d.dfl = [] := by rfl) (hk0 : d.kwd = [] := by rfl) : HasX P w K mg base (k + 1) n ps sp := by
  obtain ⟨fd, F⟩ := hF
  have e1 : d.dvs K = [] := by unfold He.DefD.dvs; rw [hd0] <;> rfl
  have e2 : d.kws K = [] := by unfold He.DefD.kws; rw [hk0] <;> rfl
  have e3 : He.fAd K d.at_ = He.ga K n := by rw [ha] <;> rfl
  rw [e1, e2, e3] at F
  exact ⟨⟨fd, F.ok S len (fun cdv A outer s H vs Q E hr h => (body cdv A outer s H vs Q E hr h).sw), F.bindsN hb⟩, F.kp, hg⟩
/-- a class's own __init__ (or any method), as it stands -/
theorem fnM_of (d : He.DefD) {n m : Str} {N ps : List Str} {k : Nat} {sp : Sp} (hF : ∃ fd, FunD K d.name d.qual d.params d.body d.scope (d.dvs K) (d.kws K) (He.fAd K d.at_) fd) (S : FnScope N ps d.scope)
    (hb : ∀ (kV doc pm : Value) (an : Option Addr) (cdv ct : Value) (us : List Value), us.length = ps.length → bindArgs (PySem.W.fnOf d.name d.qual d.params d.body d.scope .none kV doc pm an cdv ct) ⟨us, []⟩ = pure (ps.zip us)) (len : ∀ vs H Q E, sp vs H Q E → vs.length = ps.length)
    (body : ∀ (cdv : Value) (A : Around) (outer : List Env) (s : Shared) (H : Hp) (vs : List V) (Q : VK) (E : XK), Room k (A.deeper (envOfC d.qual d.scope s.heap.objs.size (He.ma K (He.ga K n) m) cdv)) → sp vs H Q E →
      Runs (cxOf CX0 P w K mg base N d.qual d.scope (He.ma K (He.ga K n) m) cdv A outer s H E).nox H d.body { nx := fun _ H' => Q .non H', rt := Q } (start N vs))
    (ha : d.at_ = (n, some m) := by rfl) (hd0 : d.dfl = [] := by rfl) (hk0 : d.kwd = [] := by rfl) : ∃ fd, FnOk P w K mg base CX0 (k + 1) (He.ma K (He.ga K n) m) fd ps sp ∧ Binds K fd ps [] := by
  obtain ⟨fd, F⟩ := hF
  have e1 : d.dvs K = [] := by unfold He.DefD.dvs; rw [hd0] <;> rfl
  have e2 : d.kws K = [] := by unfold He.DefD.kws; rw [hk0] <;> rfl
  have e3 : He.fAd K d.at_ = He.ma K (He.ga K n) m := by rw [ha] <;> rfl
  rw [e1, e2, e3] at F
  exact ⟨fd, F.ok S len (fun cdv A outer s H vs Q E hr h => (body cdv A outer s H vs Q E hr h).sw.nox), F.bindsN hb⟩
end
section
variable {X : Cx} {σ : St} {H H' : Hp} {e a b c o : Expr} {es : List Expr} {v x y z : V} {vs : List V} {P P' : V → Hp → Prop} {R R' : List V → Hp → Prop} {pos p p' apos : Pos} {D : Ends} {rest : List Stmt}
/-- f(e, ..), f may raise: what it lets out goes on to E -/
theorem x_callX {k : Nat} {n : Str} {ps : List Str} {sp : Sp} {W : WX} {E : XK} (F : HasX X.prog X.w X.K X.mg X.base k n ps sp) (hr : Room k X.A) (tk : Takes X W) (hW : ∀ cls d σ H, E cls d H → W cls d σ H) (ha : AGets X σ H (e :: es) R) (h : ∀ vs H1, Ex H H1 → R vs H1 → ∀ Q : VK, (∀ v H2, Ex H1 H2 → P v H2 → Q v H2) → sp vs H1 Q E)
    (hg : Gl X n := by rfl) (hdb : (n == ("__debug__" : Str)) = false := by decide) (he : starEach (e :: es) X.env = (false, eval e X.env) :: starEach es X.env := by rfl) (hpl : (backTo pos (starEach es X.env)).any (·.1) = false := by rfl) :
    Gets X σ H (.Call (.Name n p) (e :: es) [] pos) P := fun H1 e1 Q q => by
  obtain ⟨fd, F1, hb⟩ := F.fn
  refine ⟨_, pe_call (dvs := []) (E := E) F1 hr hg F.gl F.kp hb .nil (passes_call tk hW) AW.pa hdb he hpl, ha H1 e1 _ fun vs H2 e2 hv => ?_⟩
  rw [List.append_nil]
  exact h vs H2 (e1.trans e2) hv Q fun v H3 e3 hp => q v H3 (e2.trans e3) hp
/-- o.f = e, o an instance that stands -/
theorem r_fld {q C dx : Addr} {fs : List (Str × V)} {f : Str} (he : Is X σ H e y) (ho : Is X σ H o (.ref q)) (hH : H q = some (.ins C dx fs)) (hc : Cls X.K C) (hn : NoAttr X.K C f) (hl : fs.length < 1000) (k : ∀ H2, Ex H H2 → Runs X (upd H2 q (.ins C dx (putF f y fs))) rest D σ)
    (hs : swapsWith e (some (.Attribute o f p')) pos.line X.env = pure false := by rfl) : Runs X H (.Assign [.Attribute o f p'] e pos :: rest) D σ := fun H1 e1 =>
  ⟨_, pss_cons (ps_fld EW.pe EW.pe hs) SW.pss, he H1 e1 _ fun H2 e2 => ho H2 (e1.trans e2) _ fun H3 e3 => ⟨q, C, dx, fs, rfl, ((e1.trans e2).trans e3) _ _ hH, hc, hn, hl, k H3 ((e1.trans e2).trans e3) _ (Ex.refl _)⟩⟩
/-- C(e, ..), C an own class -/
theorem x_make {k : Nat} {n : Str} {ps : List Str} {sp : Sp} {C f : Addr} (M : Mk X.K C f) (F : ∃ fd, FnOk X.prog X.w X.K X.mg X.base CX0 k f fd ps sp ∧ Binds X.K fd ps []) (hr : Room (k + 1) X.A) (hm : X.mg n = some (.ref C)) (ha : AGets X σ H (e :: es) R)
    (h : ∀ vs H1, Ex H H1 → R vs H1 → ∀ (q dx : Addr), H1 q = none → H1 dx = none → dx ≠ q → ∀ Q : VK, (∀ H2, Ex H1 H2 → P (.ref q) H2 → Q (.ref q) H2) → sp (.ref q :: vs) (upd (upd H1 dx (.own q)) q (.ins C dx [])) (fun v H2 => v = .non ∧ Q (.ref q) H2) E0)
    (hg : Gl X n := by rfl) (hdb : (n == ("__debug__" : Str)) = false := by decide) (he : starEach (e :: es) X.env = (false, eval e X.env) :: starEach es X.env := by rfl) (hpl : (backTo pos (starEach es X.env)).any (·.1) = false := by rfl) :
    Gets X σ H (.Call (.Name n p) (e :: es) [] pos) P := fun H1 e1 Q q => by
  obtain ⟨fd, F1, hb⟩ := F
  refine ⟨_, pe_make (dvs := []) M F1 hr hg hm hb .nil pass0 AW.pa hdb he hpl, ha H1 e1 _ fun vs H2 e2 hv u dx h1 h2 h3 => ?_⟩
  rw [List.append_nil]
  exact h vs H2 (e1.trans e2) hv u dx h1 h2 h3 Q fun H3 e3 hp => q _ H3 (e2.trans e3) hp
end
end Fw
/-! FwLayer2: lists of flags, loops over them, comprehensions, subscripts, in. -/
namespace Fw
open PySem PySem.Spec PyProof.Rows L2 Evl
/-! ### flags: a tuple (place, truth); a list of such -/
abbrev Giv := Nat × Bool
def Flg (H : Hp) (t : V) (g : Giv) : Prop := ∃ a, t = .ref a ∧ H a = some (.tup [nv g.1, .bl g.2])
/-- at p stands a list of the flags l -/
def FlAt (l : List Giv) (p : Addr) (H : Hp) : Prop := ∃ ts, H p = some (.lst ts) ∧ Paired (Flg H) ts l
/-- v is a list of the flags l -/
def GL (l : List Giv) (v : V) (H : Hp) : Prop := ∃ p, v = .ref p ∧ FlAt l p H
/-- v is (lo, hi, flags) -/
def Res (lo hi : Nat) (l : List Giv) (v : V) (H : Hp) : Prop := ∃ p q, v = .ref p ∧ H p = some (.tup [nv lo, nv hi, .ref q]) ∧ FlAt l q H
/-- v is (lo, flags) -/
def Duo (lo : Nat) (l : List Giv) (v : V) (H : Hp) : Prop := ∃ p q, v = .ref p ∧ H p = some (.tup [nv lo, .ref q]) ∧ FlAt l q H
theorem Flg.mono {H H' : Hp} {t : V} {g : Giv} (e : Ex H H') (h : Flg H t g) : Flg H' t g := by
  obtain ⟨a, rfl, h⟩ := h
  exact ⟨a, rfl, e _ _ h⟩
theorem FlAt.mono {H H' : Hp} {l : List Giv} {p : Addr} (e : Ex H H') (h : FlAt l p H) : FlAt l p H' := by
  obtain ⟨ts, h1, h2⟩ := h
  exact ⟨ts, e _ _ h1, Paired.mapP h2 fun _ _ x => x.mono e⟩
theorem GL.mono {l : List Giv} {v : V} {H H' : Hp} (e : Ex H H') (h : GL l v H) : GL l v H' := by
  obtain ⟨p, rfl, h⟩ := h
  exact ⟨p, rfl, h.mono e⟩
theorem Res.mono {lo hi : Nat} {l : List Giv} {v : V} {H H' : Hp} (e : Ex H H') (h : Res lo hi l v H) : Res lo hi l v H' := by
  obtain ⟨p, q, rfl, h1, h2⟩ := h
  exact ⟨p, q, rfl, e _ _ h1, h2.mono e⟩
/-- tuples stay -/
def Tx (H H' : Hp) : Prop := ∀ a xs, H a = some (.tup xs) → H' a = some (.tup xs)
theorem Tx.of {H H' : Hp} (e : Ex H H') : Tx H H' := fun a xs h => e a _ h
theorem Flg.tx {H H' : Hp} {t : V} {g : Giv} (e : Tx H H') (h : Flg H t g) : Flg H' t g := by
  obtain ⟨a, rfl, h⟩ := h
  exact ⟨a, rfl, e _ _ h⟩
theorem paired_len {α β : Type} {F : α → β → Prop} : ∀ {l : List α} {m : List β}, Paired F l m → l.length = m.length
  | _, _, .nil => rfl
  | _, _, .cons _ t => congrArg (· + 1) (paired_len t)
theorem paired_get {α β : Type} {F : α → β → Prop} : ∀ {l : List α} {m : List β} {i : Nat} {x : α}, Paired F l m → l[i]? = some x → ∃ y, m[i]? = some y ∧ F x y
  | _, _, _, _, .nil, h => by simp at h
  | _, _, 0, _, .cons r _, h => by
    simp at h
    subst h
    exact ⟨_, rfl, r⟩
  | _, _, i + 1, _, .cons _ t, h => by
    obtain ⟨y, h1, h2⟩ := paired_get (i := i) t (by simpa using h)
    exact ⟨y, by simpa using h1, h2⟩
theorem paired_app {α β : Type} {F : α → β → Prop} : ∀ {l l' : List α} {m m' : List β}, Paired F l m → Paired F l' m' → Paired F (l ++ l') (m ++ m')
  | _, _, _, _, .nil, h => h
  | _, _, _, _, .cons r t, h => .cons r (paired_app t h)
theorem paired_one {α β : Type} {F : α → β → Prop} {x : α} {y : β} (h : F x y) : Paired F [x] [y] := .cons h .nil
theorem take_more {α : Type} : ∀ {l : List α} {i : Nat} {x : α}, l[i]? = some x → l.take (i + 1) = l.take i ++ [x]
  | [], i, x, h => by simp at h
  | a :: l, 0, x, h => by
    have e : a = x := Option.some.inj h
    subst e
    rfl
  | a :: l, i + 1, x, h => by
    have ih := take_more (l := l) (i := i) (x := x) h
    show a :: l.take (i + 1) = a :: l.take i ++ [x]
    rw [ih]
    rfl

/-- * of naturals of at most 2 ^ 26 bits each -/
theorem mul_ok {n m a b : Nat} (h1 : n < 2 ^ a) (h2 : m < 2 ^ b) (h : a + b ≤ 134217728) : CMulX n m := mulx_ok (a := a) (b := b) (by omega) (by omega) h
section
variable {X : Cx} {σ : St} {H H' : Hp} {e a b c o e1 e2 e3 : Expr} {es : List Expr} {v x y z : V} {vs : List V} {P P' : V → Hp → Prop} {R R' : List V → Hp → Prop} {pos p p' apos : Pos} {D : Ends} {rest body : List Stmt} {l m : List Giv}
/-! ### displays -/
theorem x_flag {n ct : Nat} {k : Bool} (h1 : Is X σ H e1 (nv n)) (h2 : Is X σ H e2 (.bl k)) (hs : starEach [e1, e2] X.env = (false, eval e1 X.env) :: starEach [e2] X.env := by rfl) (hs2 : starEach [e2] X.env = (false, eval e2 X.env) :: starEach [] X.env := by rfl) :
    Gets X σ H (.Tuple [e1, e2] ct pos) (fun t H => Flg H t (n, k)) := (x_tup (ac h1 (a1 h2 hs2) hs).gets fun vs _ hv => by rw [hv]; exact (by decide : 2 ≤ 1000)).imp fun v H1 _ h => by
  obtain ⟨q, vs, Hq, rfl, hq, _, rfl⟩ := h
  exact ⟨q, rfl, hq⟩
/-- a display's flags, one by one -/
def FA (X : Cx) (σ : St) (H : Hp) (es : List Expr) (l : List Giv) : Prop := AGets X σ H es (fun ts H => Paired (Flg H) ts l)
theorem fa_nil : FA X σ H [] [] := fun H1 e1 Q q => a0 H1 e1 Q fun H2 e2 => q [] H2 e2 .nil
theorem fa_cons {g : Giv} (h1 : Gets X σ H e (fun t H => Flg H t g)) (h2 : FA X σ H es l) (hs : starEach (e :: es) X.env = (false, eval e X.env) :: starEach es X.env := by rfl) : FA X σ H (e :: es) (g :: l) := fun H1 k1 Q q =>
  ag h1 (fun _ _ _ k h => h.mono k) h2 hs H1 k1 Q fun vs H2 k2 hv => by
    obtain ⟨v, r, rfl, hp, hr⟩ := hv
    exact q _ H2 k2 (.cons hp hr)
theorem x_flags (h : FA X σ H es l) (hl : l.length ≤ 1000) : Gets X σ H (.List es pos) (GL l) := (x_lst h fun vs _ hv => by rw [paired_len hv]; exact hl).imp fun v H1 _ h => by
  obtain ⟨q, vs, Hq, rfl, hq, k, hp⟩ := h
  exact ⟨q, rfl, vs, hq, Paired.mapP hp fun _ _ x => x.mono k⟩
/-- [] -/
theorem x_none : Gets X σ H (.List [] pos) (GL []) := x_flags fa_nil (by decide)
/-- flags + flags -/
theorem x_cat (ha : Gets X σ H a (GL l)) (hb : Gets X σ H b (GL m)) (hl : l.length + m.length ≤ 1000) : Gets X σ H (.BinOp a .Add b pos) (GL (l ++ m)) := fun H1 k1 Q q =>
  ⟨_, pe_op op_cat EW.pe EW.pe, ha H1 k1 _ fun u H2 k2 hu => hb H2 (k1.trans k2) _ fun w H3 k3 hw => by
    obtain ⟨p1, rfl, t1, hp1, q1⟩ := hu
    obtain ⟨p2, rfl, t2, hp2, q2⟩ := hw
    refine ⟨p1, p2, t1, t2, rfl, rfl, k3 _ _ hp1, hp2, Nat.le_trans (by rw [paired_len q1, paired_len q2]; exact hl) (by decide), fun r hr => ?_⟩
    refine q _ _ ((k2.trans k3).trans (Ex.new hr)) ⟨r, rfl, t1 ++ t2, upd_same, paired_app (Paired.mapP q1 fun _ _ x => (x.mono k3).mono (Ex.new hr)) (Paired.mapP q2 fun _ _ x => x.mono (Ex.new hr))⟩⟩
/-- (lo, hi, flags) -/
theorem x_res {lo hi ct : Nat} (h1 : Is X σ H e1 (nv lo)) (h2 : Is X σ H e2 (nv hi)) (h3 : Gets X σ H e3 (GL l)) (hs : starEach [e1, e2, e3] X.env = (false, eval e1 X.env) :: starEach [e2, e3] X.env := by rfl) (hs2 : starEach [e2, e3] X.env = (false, eval e2 X.env) :: starEach [e3] X.env := by rfl)
    (hs3 : starEach [e3] X.env = (false, eval e3 X.env) :: starEach [] X.env := by rfl) : Gets X σ H (.Tuple [e1, e2, e3] ct pos) (Res lo hi l) := by
  have A : AGets X σ H [e1, e2, e3] (fun vs H => ∃ q, vs = [nv lo, nv hi, .ref q] ∧ FlAt l q H) := fun H1 k1 Q q =>
    ag (P := fun x _ => x = nv lo) h1.gets (fun _ _ _ _ h => h) (ag (P := fun x _ => x = nv hi) h2.gets (fun _ _ _ _ h => h) (ag h3 (fun _ _ _ k h => h.mono k) a0.gets hs3) hs2) hs H1 k1 Q fun vs H2 k2 hv => by
      obtain ⟨v1, r1, rfl, rfl, v2, r2, rfl, rfl, v3, r3, rfl, ⟨g, rfl, hg⟩, rfl⟩ := hv
      exact q _ H2 k2 ⟨g, rfl, hg⟩
  exact (x_tup A fun vs _ hv => by obtain ⟨q, rfl, _⟩ := hv; exact (by decide : 3 ≤ 1000)).imp fun v H1 _ h => by
    obtain ⟨q, vs, Hq, rfl, hq, k, g, rfl, hg⟩ := h
    exact ⟨q, g, rfl, hq, hg.mono k⟩
/-- (lo, flags) -/
theorem x_duo {lo ct : Nat} (h1 : Is X σ H e1 (nv lo)) (h2 : Gets X σ H e2 (GL l)) (hs : starEach [e1, e2] X.env = (false, eval e1 X.env) :: starEach [e2] X.env := by rfl) (hs2 : starEach [e2] X.env = (false, eval e2 X.env) :: starEach [] X.env := by rfl) : Gets X σ H (.Tuple [e1, e2] ct pos) (Duo lo l) := by
  have A : AGets X σ H [e1, e2] (fun vs H => ∃ q, vs = [nv lo, .ref q] ∧ FlAt l q H) := fun H1 k1 Q q =>
    ag (P := fun x _ => x = nv lo) h1.gets (fun _ _ _ _ h => h) (ag h2 (fun _ _ _ k h => h.mono k) a0.gets hs2) hs H1 k1 Q fun vs H2 k2 hv => by
      obtain ⟨v1, r1, rfl, rfl, v3, r3, rfl, ⟨g, rfl, hg⟩, rfl⟩ := hv
      exact q _ H2 k2 ⟨g, rfl, hg⟩
  exact (x_tup A fun vs _ hv => by obtain ⟨q, rfl, _⟩ := hv; exact (by decide : 2 ≤ 1000)).imp fun v H1 _ h => by
    obtain ⟨q, vs, Hq, rfl, hq, k, g, rfl, hg⟩ := h
    exact ⟨q, g, rfl, hq, hg.mono k⟩
/-! ### subscripts, in -/
theorem x_ixT {q : Addr} {xs : List V} {j : Nat} (ha : Is X σ H a (.ref q)) (hx : SqT X.K H q xs) (hb : Is X σ H b (nv j)) (hj : xs[j]? = some v) (hs : PlainIx b := by exact fun _ _ => rfl) : Is X σ H (.Subscript a b pos) v := is_of (pe_ix ix_tup EW.pe EW.pe hs) (ev_op ha hb (rv_ixT hx (atI_nat hj)))
theorem x_ixL {q : Addr} {xs : List V} {j : Nat} (ha : Is X σ H a (.ref q)) (hx : SqL X.K H q xs) (hb : Is X σ H b (nv j)) (hj : xs[j]? = some v) (hs : PlainIx b := by exact fun _ _ => rfl) : Is X σ H (.Subscript a b pos) v := is_of (pe_ix ix_list EW.pe EW.pe hs) (ev_op ha hb (rv_ixL hx (atI_nat hj)))
/-- a list just made, at a place -/
theorem x_ixNew {j : Nat} (ha : As X σ H es vs) (hb : ∀ H1, Is X σ H1 b (nv j)) (hj : vs[j]? = some v) (hl : vs.length ≤ 1000) (hs : PlainIx b := by exact fun _ _ => rfl) : Is X σ H (.Subscript (.List es p) b pos) v := fun H1 k1 Q q =>
  ⟨_, pe_ix ix_list (pe_lst AW.pa) EW.pe hs, ha H1 k1 _ fun H2 k2 => ⟨Nat.le_trans hl (by decide), fun w hw => hb _ _ (Ex.refl _) _ fun H3 k3 => ⟨w, vs, j, v, rfl, rfl, SqL.of (k3 _ _ upd_same), atI_nat hj, q H3 ((k2.trans (Ex.new hw)).trans k3)⟩⟩⟩
/-- a tuple just made, at a written place: its flags -/
theorem x_ixDuo {lo : Nat} (ha : Gets X σ H a (Duo lo l)) (hb : ∀ H1, Is X σ H1 b (nv 1)) (hs : PlainIx b := by exact fun _ _ => rfl) : Gets X σ H (.Subscript a b pos) (GL l) := fun H1 k1 Q q =>
  ⟨_, pe_ix ix_tup EW.pe EW.pe hs, ha H1 k1 _ fun u H2 k2 hu => by
    obtain ⟨p, g, rfl, hp, hg⟩ := hu
    exact hb H2 H2 (Ex.refl _) _ fun H3 k3 => ⟨p, _, 1, _, rfl, rfl, SqT.of (k3 _ _ hp), atI_nat (j := 1) rfl, q _ H3 (k2.trans k3) ⟨g, rfl, hg.mono k3⟩⟩⟩
theorem x_ixRes {lo hi : Nat} (ha : Gets X σ H a (Res lo hi l)) (hb : ∀ H1, Is X σ H1 b (nv 2)) (hs : PlainIx b := by exact fun _ _ => rfl) : Gets X σ H (.Subscript a b pos) (GL l) := fun H1 k1 Q q =>
  ⟨_, pe_ix ix_tup EW.pe EW.pe hs, ha H1 k1 _ fun u H2 k2 hu => by
    obtain ⟨p, g, rfl, hp, hg⟩ := hu
    exact hb H2 H2 (Ex.refl _) _ fun H3 k3 => ⟨p, _, 2, _, rfl, rfl, SqT.of (k3 _ _ hp), atI_nat (j := 2) rfl, q _ H3 (k2.trans k3) ⟨g, rfl, hg.mono k3⟩⟩⟩
theorem inN : ∀ (n : Nat) (ns : List Nat), inV (nv n) (ns.map nv) = decide (n ∈ ns)
  | n, [] => by
    rw [decide_eq_false (by simp)]
    rfl
  | n, m :: r => by
    have ih := inN n r
    show (eqV (nv m) (nv n) || inV (nv n) (r.map nv)) = _
    rw [ih]
    show (((m : Int) == (n : Int)) || decide (n ∈ r)) = _
    by_cases h : m = n
    · subst h
      rw [beq_self_eq_true, Bool.true_or, decide_eq_true (List.mem_cons_self ..)]
    · have e : ((m : Int) == (n : Int)) = false := beq_eq_false_iff_ne.mpr (by omega)
      rw [e, Bool.false_or]
      exact decide_eq_decide.mpr (by rw [List.mem_cons]; exact ⟨.inr, fun k => k.resolve_left fun z => h z.symm⟩)
theorem flatN : ∀ ns : List Nat, (ns.map nv).all flatV = true
  | [] => rfl
  | _ :: r => flatN r
theorem t_inT {q : Addr} {n : Nat} (ns : List Nat) (ha : Is X σ H a (nv n)) (hb : Is X σ H b (.ref q)) (hx : SqT X.K H q (ns.map nv)) (hm : behindInMarks .In b = false := by rfl) : Tru X σ H (.Compare a [.In] [b] pos) (decide (n ∈ ns)) := (t_cmpR op_in_seq ha hb (rv_isT hx rfl (flatN ns)) hm).to (inN n ns)
/-- in a tuple written on the spot (constants) -/
theorem x_inU {n ct : Nat} (ns : List Nat) (ha : Is X σ H a (nv n)) (hb : As X σ H es (ns.map nv)) (hl : ns.length ≤ 1000) (hm : behindInMarks .In (.Tuple es ct p) = false := by rfl) : Is X σ H (.Compare a [.In] [.Tuple es ct p] pos) (.bl (decide (n ∈ ns))) := fun H1 k1 Q q =>
  ⟨_, pe_cmpR op_in_seq EW.pe (pe_tup AW.pa) hm, ha H1 k1 _ fun H2 k2 => hb H2 (k1.trans k2) _ fun H3 k3 => ⟨Nat.le_trans (by rw [List.length_map]; exact hl) (by decide), fun w hw => ⟨w, _, rfl, .inr (SqT.of upd_same), rfl, flatN ns, by
    have z := q (upd H3 w (.tup (ns.map nv))) ((k2.trans k3).trans (Ex.new hw))
    rw [← inN n ns] at z
    exact z⟩⟩⟩
/-- one argument -/
theorem ag1 (h1 : Gets X σ H e P) (hR : ∀ vs H1, (∃ v, vs = [v] ∧ P v H1) → R vs H1) (hs : starEach [e] X.env = (false, eval e X.env) :: starEach [] X.env := by rfl) : AGets X σ H [e] R := fun H1 k1 Q q =>
  ⟨_, pa_cons EW.pe pa_nil hs, h1 H1 k1 _ fun v H2 k2 hp => q [v] H2 k2 (hR _ _ ⟨v, rfl, hp⟩)⟩
theorem x_callBG {id : String} {r : List V → Hp → VK → Prop} {n : Str} (hc : CallR X (.builtin id) r) (hm : X.mg n = none) (hv : bootBuiltins n = some (.builtin id)) (ha : AGets X σ H (e :: es) R) (h : ∀ vs H1, Ex H H1 → R vs H1 → ∀ Q : VK, (∀ v H2, Ex H1 H2 → P v H2 → Q v H2) → r vs H1 Q)
    (hg : Gl X n := by rfl) (hn : n ≠ "__name__" := by decide) (hdb : (n == ("__debug__" : Str)) = false := by decide) (he : starEach (e :: es) X.env = (false, eval e X.env) :: starEach es X.env := by rfl) (hpl : (backTo pos (starEach es X.env)).any (·.1) = false := by rfl) :
    Gets X σ H (.Call (.Name n p) (e :: es) [] pos) P := fun H1 e1 Q q => ⟨_, pe_callB hc hg hm hv AW.pa hn hdb he hpl, ha H1 e1 _ fun vs H2 e2 hv => h vs H2 (e1.trans e2) hv Q fun v H3 e3 hp => q v H3 (e2.trans e3) hp⟩
/-- a number and flags, as arguments -/
theorem ag_flags (h1 : Is X σ H e1 v) (h2 : Gets X σ H e2 (GL l)) (hs : starEach [e1, e2] X.env = (false, eval e1 X.env) :: starEach [e2] X.env := by rfl) (hs2 : starEach [e2] X.env = (false, eval e2 X.env) :: starEach [] X.env := by rfl) :
    AGets X σ H [e1, e2] (fun vs H => ∃ g, vs = [v, .ref g] ∧ FlAt l g H) := fun H1 k1 Q q =>
  ag (P := fun x _ => x = v) h1.gets (fun _ _ _ _ h => h) (ag h2 (fun _ _ _ k h => h.mono k) a0.gets hs2) hs H1 k1 Q fun vs H2 k2 hv => by
    obtain ⟨v1, r1, rfl, rfl, v3, r3, rfl, ⟨g, rfl, hg⟩, rfl⟩ := hv
    exact q _ H2 k2 ⟨g, rfl, hg⟩
/-! ### targets -/
/-- x, y = a tuple -/
theorem r_duo (i j : Nat) {n n' : Str} {ct : Nat} {q1 q2 : Pos} {lo : Nat} (he : Gets X σ H e (Duo lo l)) (k : ∀ g H1, Ex H H1 → FlAt l g H1 → Runs X H1 rest D ((σ.set i (some (nv lo))).set j (some (.ref g)))) (hN : X.N.Nodup) (hi : X.N[i]? = some n := by rfl) (hj : X.N[j]? = some n' := by rfl) (hc : X.calm = true := by rfl)
    (hx : Loc X.env.scope n := by first | exact Or.inl rfl | exact Or.inr rfl) (hy : Loc X.env.scope n' := by first | exact Or.inl rfl | exact Or.inr rfl) (hf : X.fn n = true ∨ X.env.scope.names.lookup n = some .local := by first | exact .inl rfl | exact .inr rfl) (hf' : X.fn n' = true ∨ X.env.scope.names.lookup n' = some .local := by first | exact .inl rfl | exact .inr rfl)
    (hs : swapsWithSole [.Tuple [.Name n q1, .Name n' q2] ct p] e pos.line X.env = pure false := by rfl) (hw : swappedStores [.Tuple [.Name n q1, .Name n' q2] ct p] e X.env = pure none := by rfl) (h1 : (assignEach [.Tuple [.Name n q1, .Name n' q2] ct p] X.env).map (·.2) = [assign (.Tuple [.Name n q1, .Name n' q2] ct p) X.env] := by rfl)
    (h2 : (assignEach [.Name n q1, .Name n' q2] X.env).map (·.2) = assign (.Name n q1) X.env :: (assignEach [.Name n' q2] X.env).map (·.2) := by rfl) (h3 : (assignEach [.Name n' q2] X.env).map (·.2) = assign (.Name n' q2) X.env :: (assignEach [] X.env).map (·.2) := by rfl)
    (h4 : (assignEach [.Name n q1, .Name n' q2] X.env).length = 2 := by rfl) (h5 : (assignEach [.Name n q1, .Name n' q2] X.env).findIdx? (·.1) = none := by rfl) : Runs X H (.Assign [.Tuple [.Name n q1, .Name n' q2] ct p] e pos :: rest) D σ := fun H1 k1 =>
  ⟨_, pss_cons (ps_asg EW.pe (pg_tup hc (pgs_cons (pg_name hN hi hx hf) (pgs_cons (pg_name hN hj hy hf') pgs_nil h3) h2) h4 h5) hs hw h1) SW.pss, he H1 k1 _ fun v H2 k2 hv => by
    obtain ⟨q, g, rfl, hq, hg⟩ := hv
    exact ⟨q, _, rfl, SqT.of hq, rfl, _, _, rfl, _, _, rfl, rfl, k g H2 (k1.trans k2) hg H2 (Ex.refl _)⟩⟩
/-- x, y, z = a tuple -/
theorem r_res (i j w : Nat) {n n' n'' : Str} {ct : Nat} {q1 q2 q3 : Pos} {lo hi : Nat} (he : Gets X σ H e (Res lo hi l)) (k : ∀ g H1, Ex H H1 → FlAt l g H1 → Runs X H1 rest D (((σ.set i (some (nv lo))).set j (some (nv hi))).set w (some (.ref g)))) (hN : X.N.Nodup) (hi : X.N[i]? = some n := by rfl) (hj : X.N[j]? = some n' := by rfl) (hk : X.N[w]? = some n'' := by rfl) (hc : X.calm = true := by rfl)
    (hx : Loc X.env.scope n := by first | exact Or.inl rfl | exact Or.inr rfl) (hy : Loc X.env.scope n' := by first | exact Or.inl rfl | exact Or.inr rfl) (hz : Loc X.env.scope n'' := by first | exact Or.inl rfl | exact Or.inr rfl) (hf : X.fn n = true ∨ X.env.scope.names.lookup n = some .local := by first | exact .inl rfl | exact .inr rfl) (hf' : X.fn n' = true ∨ X.env.scope.names.lookup n' = some .local := by first | exact .inl rfl | exact .inr rfl) (hf'' : X.fn n'' = true ∨ X.env.scope.names.lookup n'' = some .local := by first | exact .inl rfl | exact .inr rfl)
    (hs : swapsWithSole [.Tuple [.Name n q1, .Name n' q2, .Name n'' q3] ct p] e pos.line X.env = pure false := by rfl) (hw : swappedStores [.Tuple [.Name n q1, .Name n' q2, .Name n'' q3] ct p] e X.env = pure none := by rfl) (h1 : (assignEach [.Tuple [.Name n q1, .Name n' q2, .Name n'' q3] ct p] X.env).map (·.2) = [assign (.Tuple [.Name n q1, .Name n' q2, .Name n'' q3] ct p) X.env] := by rfl)
    (h2 : (assignEach [.Name n q1, .Name n' q2, .Name n'' q3] X.env).map (·.2) = assign (.Name n q1) X.env :: (assignEach [.Name n' q2, .Name n'' q3] X.env).map (·.2) := by rfl) (h3 : (assignEach [.Name n' q2, .Name n'' q3] X.env).map (·.2) = assign (.Name n' q2) X.env :: (assignEach [.Name n'' q3] X.env).map (·.2) := by rfl) (h3' : (assignEach [.Name n'' q3] X.env).map (·.2) = assign (.Name n'' q3) X.env :: (assignEach [] X.env).map (·.2) := by rfl)
    (h4 : (assignEach [.Name n q1, .Name n' q2, .Name n'' q3] X.env).length = 3 := by rfl) (h5 : (assignEach [.Name n q1, .Name n' q2, .Name n'' q3] X.env).findIdx? (·.1) = none := by rfl) : Runs X H (.Assign [.Tuple [.Name n q1, .Name n' q2, .Name n'' q3] ct p] e pos :: rest) D σ := fun H1 k1 =>
  ⟨_, pss_cons (ps_asg EW.pe (pg_tup hc (pgs_cons (pg_name hN hi hx hf) (pgs_cons (pg_name hN hj hy hf') (pgs_cons (pg_name hN hk hz hf'') pgs_nil h3') h3) h2) h4 h5) hs hw h1) SW.pss, he H1 k1 _ fun v H2 k2 hv => by
    obtain ⟨q, g, rfl, hq, hg⟩ := hv
    exact ⟨q, _, rfl, SqT.of hq, rfl, _, _, rfl, _, _, rfl, _, _, rfl, rfl, k g H2 (k1.trans k2) hg H2 (Ex.refl _)⟩⟩
/-- x.bit_length() -/
theorem x_bitlen {i : Int} (ho : Is X σ H o (.int i)) (hb : attributeBase o "bit_length" X.env (eval o X.env) = eval o X.env := by rfl) (hl : (apos.endLine == pos.line) = true := by rfl) : Is X σ H (.Call (.Attribute o "bit_length" apos) [] [] pos) (nv (Builtin.Int.intBits i)) := fun H1 k1 Q q =>
  ⟨_, pe_bits EW.pe hb hl, ho H1 k1 _ fun H2 k2 => ⟨i, rfl, q H2 k2⟩⟩
/-- a loop over range(lo, hi, step) -/
theorem r_forR3 (j : Nat) {n : Str} {lo up st : Int} {r : Nat} {a b c : Expr} {q1 q2 q3 : Pos} (I : Nat → St → Prop) (hm : X.mg "range" = none) (he : As X σ H [a, b, c] [.int lo, .int up, .int st]) (hr : RgC lo up st r) (hp : PassesOwn (model X.prog X.w) X.A X.env X.xe) (hN : X.N.Nodup) (h0 : I 0 σ)
    (hs : ∀ i σ' H1, Ex H H1 → i < r → I i σ' → ∀ D' : Ends, (∀ σ'' H2, I (i + 1) σ'' → Ex H1 H2 → D'.nx σ'' H2) → Runs X H1 body D' (σ'.set j (some (.int (lo + (i : Nat) * st))))) (k : ∀ σ' H1, Ex H H1 → I r σ' → Runs X H1 rest D σ')
    (hi : X.N[j]? = some n := by rfl) (hl : Loc X.env.scope n := by first | exact Or.inl rfl | exact Or.inr rfl) (hc : X.calm = true := by rfl) (hf : X.fn n = true ∨ X.env.scope.names.lookup n = some .local := by first | exact .inl rfl | exact .inr rfl) (hg : Gl X "range" := by rfl)
    (s1 : starEach [a, b, c] X.env = (false, eval a X.env) :: starEach [b, c] X.env := by rfl) (hpl : (backTo q3 (starEach [b, c] X.env)).any (·.1) = false := by rfl) (hfs : ∀ x, foldedSetIterable (.Call (.Name "range" q2) [a, b, c] [] q3) X.env x = pure x := by intro _; rfl) :
    Runs X H (.For (.Name n q1) (.Call (.Name "range" q2) [a, b, c] [] q3) body [] pos :: rest) D σ := fun H1 k1 =>
  ⟨_, pss_cons (ps_for hp hc (pi_range3 hg hm AW.pa s1 hpl) (pg_name hN hi hl hf) SW.pss hfs) SW.pss, he H1 k1 _ fun H2 k2 => ⟨lo, up, st, r, rfl, hr,
    for_rangeC (fun i σ' H' => I i σ' ∧ Ex H H') ⟨h0, k1.trans k2⟩ (fun i σ' H' hi' ⟨hI, ee⟩ => by
        refine hs i σ' H' ee hi' hI _ ?_ H' (Ex.refl _)
        exact fun σ'' H3 hI2 k3 => ⟨hI2, ee.trans k3⟩)
      (fun σ' H' ⟨hI, ee⟩ => k σ' H' ee hI H' (Ex.refl _))⟩⟩
/-! ### a loop over a list of flags -/
theorem r_forF (i j : Nat) {n n' : Str} {ct : Nat} {q1 q2 : Pos} {g : Addr} (I : Nat → St → Prop) (he : Is X σ H e (.ref g)) (hx : FlAt l g H) (hp : PassesOwn (model X.prog X.w) X.A X.env X.xe) (hN : X.N.Nodup) (h0 : I 0 σ)
    (hstep : ∀ t f σ' H1, Ex H H1 → l[t]? = some f → I t σ' → ∀ D' : Ends, (∀ σ'' H2, I (t + 1) σ'' → Ex H1 H2 → D'.nx σ'' H2) → Runs X H1 body D' ((σ'.set i (some (nv f.1))).set j (some (.bl f.2)))) (k : ∀ σ' H1, Ex H H1 → I l.length σ' → Runs X H1 rest D σ')
    (hi : X.N[i]? = some n := by rfl) (hj : X.N[j]? = some n' := by rfl) (hc : X.calm = true := by rfl)
    (hx' : Loc X.env.scope n := by first | exact Or.inl rfl | exact Or.inr rfl) (hy : Loc X.env.scope n' := by first | exact Or.inl rfl | exact Or.inr rfl) (hf : X.fn n = true ∨ X.env.scope.names.lookup n = some .local := by first | exact .inl rfl | exact .inr rfl) (hf' : X.fn n' = true ∨ X.env.scope.names.lookup n' = some .local := by first | exact .inl rfl | exact .inr rfl)
    (h2 : (assignEach [.Name n q1, .Name n' q2] X.env).map (·.2) = assign (.Name n q1) X.env :: (assignEach [.Name n' q2] X.env).map (·.2) := by rfl) (h3 : (assignEach [.Name n' q2] X.env).map (·.2) = assign (.Name n' q2) X.env :: (assignEach [] X.env).map (·.2) := by rfl)
    (h4 : (assignEach [.Name n q1, .Name n' q2] X.env).length = 2 := by rfl) (h5 : (assignEach [.Name n q1, .Name n' q2] X.env).findIdx? (·.1) = none := by rfl)
    (hfs : ∀ x, foldedSetIterable e X.env x = pure x := by intro _; rfl) : Runs X H (.For (.Tuple [.Name n q1, .Name n' q2] ct p) e body [] pos :: rest) D σ := fun H1 k1 => by
  obtain ⟨ts, hg, hts⟩ := hx
  refine ⟨_, pss_cons (ps_for hp hc (pi_list EW.pe) (pg_tup hc (pgs_cons (pg_name hN hi hx' hf) (pgs_cons (pg_name hN hj hy hf') pgs_nil h3) h2) h4 h5) SW.pss hfs) SW.pss, he H1 k1 _ fun H2 k2 => ⟨g, rfl, ⟨ts, SqL.of ((k1.trans k2) _ _ hg)⟩, ?_⟩⟩
  refine for_list (K := X.K) (a := g) (xs := ts) (fun t σ' H' => I t σ' ∧ Ex H H') ⟨h0, k1.trans k2⟩ (fun t σ' H' _ ⟨_, ee⟩ => SqL.of (ee _ _ hg)) (fun t x σ' H' hx2 ⟨hI, ee⟩ => ?_) (fun σ' H' ⟨hI, ee⟩ => ?_)
  · obtain ⟨f, hf2, u, rfl, hu⟩ := paired_get hts hx2
    refine ⟨u, _, rfl, SqT.of (ee _ _ hu), rfl, _, _, rfl, _, _, rfl, rfl, ?_⟩
    refine hstep t f σ' H' ee hf2 hI _ ?_ H' (Ex.refl _)
    exact fun σ'' H3 hI2 k3 => ⟨hI2, ee.trans k3⟩
  · rw [paired_len hts] at hI
    exact k σ' H' ee hI H' (Ex.refl _)
/-! ### comprehensions -/
/-- an element's widest reading in the block, whatever the block's frame -/
def EB (X : Cx) (sc : Scope) (e : Expr) : TE := fun σ H Q => ∀ (s : Shared) (H0 : Hp) (C : Addr) (cl : List (Str × Addr)) (fp : List Addr), EW (X.blk s H0 sc (compEnvC sc cl C X.env) fp) e σ H Q
def TB (X : Cx) (sc : Scope) (e : Expr) : TT := fun σ H Q => ∀ (s : Shared) (H0 : Hp) (C : Addr) (cl : List (Str × Addr)) (fp : List Addr), TW (X.blk s H0 sc (compEnvC sc cl C X.env) fp) e σ H Q
theorem EB.pe {sc : Scope} (s : Shared) (H0 : Hp) (C : Addr) (cl : List (Str × Addr)) (fp : List Addr) : PE (X.blk s H0 sc (compEnvC sc cl C X.env) fp) e (EB X sc e) := ⟨fun pins s1 σ H Q I h => EW.pe.run pins s1 σ H Q I (h s H0 C cl fp)⟩
theorem TB.pt {sc : Scope} (s : Shared) (H0 : Hp) (C : Addr) (cl : List (Str × Addr)) (fp : List Addr) : PT (X.blk s H0 sc (compEnvC sc cl C X.env) fp) e (TB X sc e) := ⟨fun pins s1 σ H Q I h => TW.pt.run pins s1 σ H Q I (h s H0 C cl fp)⟩
/-- an item told by what stands in tuples -/
def Steady (E : Nat → V → Hp → Prop) : Prop := ∀ i t H1 H2, Tx H1 H2 → E i t H1 → E i t H2
theorem lc_step {E : Nat → V → Hp → Prop} (hE : Steady E) {H1 H3 H4 : Hp} {Dl : Addr} {ts : List V} {i : Nat} {y : V} (n1 : H1 Dl = none) (k : Ex H1 H3) (h3 : H3 Dl = some (.lst ts)) (hl : ts.length = i) (hts : ∀ (j : Nat) t, ts[j]? = some t → E j t H3) (k4 : Ex H3 H4) (hy : E i y H4) :
    Ex H1 (upd H4 Dl (.lst (ts ++ [y]))) ∧ ∃ us, upd H4 Dl (.lst (ts ++ [y])) Dl = some (.lst us) ∧ us.length = i + 1 ∧ ∀ (j : Nat) t, us[j]? = some t → E j t (upd H4 Dl (.lst (ts ++ [y]))) := by
  have tx : Tx H4 (upd H4 Dl (.lst (ts ++ [y]))) := fun a xs h => by
    rw [upd_ne (fun z => by rw [z, k4 _ _ h3] at h; cases h)]
    exact h
  refine ⟨Ex.mut (k.trans k4) n1, _, upd_same, by rw [List.length_append, hl]; rfl, fun j t hj => hE j t H4 _ tx ?_⟩
  by_cases hlt : j < ts.length
  · rw [List.getElem?_append_left hlt] at hj
    exact hE j t H3 _ (Tx.of k4) (hts j t hj)
  · rw [List.getElem?_append_right (by omega)] at hj
    have e0 : j - ts.length = 0 := by
      by_cases h : j - ts.length = 0
      · exact h
      · obtain ⟨d, hd⟩ : ∃ d, j - ts.length = d + 1 := ⟨j - ts.length - 1, by omega⟩
        rw [hd] at hj
        simp at hj
    rw [e0] at hj
    have e1 : y = t := Option.some.inj hj
    have e2 : j = i := by omega
    rw [← e1, e2]
    exact hy
/-- what a comprehension without tests makes -/
def Made (n : Nat) (E : Nat → V → Hp → Prop) (v : V) (H : Hp) : Prop := ∃ p ts, v = .ref p ∧ H p = some (.lst ts) ∧ ts.length = n ∧ ∀ (j : Nat) t, ts[j]? = some t → E j t H
/-- [e for x in a tuple] -/
theorem x_lcT (j : Nat) {n : Str} {q : Addr} {xs : List V} {elt iter : Expr} {sc : Scope} {q1 : Pos} (own : List (Str × Nat)) (E : Nat → V → Hp → Prop) (hE : Steady E) (he : Is X σ H iter (.ref q)) (hx : SqT X.K H q xs) (hz : xs.length ≤ 1000) (hN : X.N.Nodup) (ok : BlkOk X.N X.env.scope sc own)
    (hel : ∀ i x H1, Ex H H1 → xs[i]? = some x → ∀ (s : Shared) (H0 : Hp) (C : Addr) (cl : List (Str × Addr)) (fp : List Addr), Gets (X.blk s H0 sc (compEnvC sc cl C X.env) fp) ((wipe σ (own.map (·.2))).set j (some x)) H1 elt (E i))
    (hg : ∀ (s : Shared) (H : Hp) (C : Addr) (cl : List (Str × Addr)) (fp : List Addr), PG (X.blk s H sc (compEnvC sc cl C X.env) fp) (.Name n q1) (gName j)) (hc : X.calm = true := by rfl) (hw : ∀ x, wipe ((wipe σ (own.map (·.2))).set j (some x)) (own.map (·.2)) = wipe σ (own.map (·.2)) := by intro _; rfl)
    (hfs : ∀ x, foldedSetIterable iter X.env x = pure x := by intro _; rfl) : Gets X σ H (.ListComp elt [⟨.Name n q1, iter, [], 0⟩] sc pos) (Made xs.length E) := fun H1 k1 Q qq =>
  ⟨_, pe_lc (g := gName j) (tt := tYes) hc hN (pi_tup EW.pe) ok hg (fun _ _ _ _ _ => pts_nil) (fun s H C cl fp => EB.pe s H C cl fp) hfs, he H1 k1 _ fun H2 k2 => ⟨q, rfl, ⟨xs, ex_t (k1.trans k2) hx⟩, fun Dl hD => by
    refine lc_tup (xs := xs) (fun i H' => Ex H2 H' ∧ ∃ ts, H' Dl = some (.lst ts) ∧ ts.length = i ∧ ∀ (j : Nat) t, ts[j]? = some t → E j t H') ⟨Ex.new hD, [], upd_same, rfl, fun j t h => by simp at h⟩ (fun i H' _ ⟨ee, _⟩ => ex_t ((k1.trans k2).trans ee) hx) (fun i x H3 hi ⟨ee, ts, hts, hlen, hall⟩ => ⟨hw x, ?_⟩) (fun H3 ⟨ee, ts, hts, hlen, hall⟩ => qq _ H3 (k2.trans ee) ⟨Dl, ts, rfl, hts, hlen, hall⟩)
    show EB X sc elt ((wipe σ (own.map (·.2))).set j (some x)) H3 _
    intro s H0 C cl fp
    refine hel i x H3 ((k1.trans k2).trans ee) hi s H0 C cl fp H3 (Ex.refl _) _ fun y H4 k4 hy => ⟨ts, k4 _ _ hts, Nat.lt_of_lt_of_le (show ts.length < 1001 by have := (List.getElem?_eq_some_iff.mp hi).1; omega) (by decide), ?_⟩
    exact lc_step hE hD ee hts hlen hall k4 hy⟩⟩
/-- [e for x in range(n)] -/
theorem x_lcR (j : Nat) {n : Str} {r : Nat} {elt a : Expr} {sc : Scope} {q1 q2 q3 : Pos} (own : List (Str × Nat)) (E : Nat → V → Hp → Prop) (hE : Steady E) (hm : X.mg "range" = none) (he : As X σ H [a] [nv r]) (hz : r ≤ 1000) (hN : X.N.Nodup) (ok : BlkOk X.N X.env.scope sc own)
    (hel : ∀ i H1, Ex H H1 → i < r → ∀ (s : Shared) (H0 : Hp) (C : Addr) (cl : List (Str × Addr)) (fp : List Addr), Gets (X.blk s H0 sc (compEnvC sc cl C X.env) fp) ((wipe σ (own.map (·.2))).set j (some (nv i))) H1 elt (E i))
    (hg : ∀ (s : Shared) (H : Hp) (C : Addr) (cl : List (Str × Addr)) (fp : List Addr), PG (X.blk s H sc (compEnvC sc cl C X.env) fp) (.Name n q1) (gName j)) (hgl : Gl X "range" := by rfl) (hc : X.calm = true := by rfl) (hw : ∀ x, wipe ((wipe σ (own.map (·.2))).set j (some x)) (own.map (·.2)) = wipe σ (own.map (·.2)) := by intro _; rfl)
    (hs : starEach [a] X.env = [(false, eval a X.env)] := by rfl) (hfs : ∀ x, foldedSetIterable (.Call (.Name "range" q2) [a] [] q3) X.env x = pure x := by intro _; rfl) : Gets X σ H (.ListComp elt [⟨.Name n q1, .Call (.Name "range" q2) [a] [] q3, [], 0⟩] sc pos) (Made r E) := fun H1 k1 Q qq =>
  ⟨_, pe_lc (g := gName j) (tt := tYes) hc hN (pi_range1 hgl hm AW.pa hs) ok hg (fun _ _ _ _ _ => pts_nil) (fun s H C cl fp => EB.pe s H C cl fp) hfs, he H1 k1 _ fun H2 k2 => ⟨(r : Int), rfl, by omega, by omega, fun Dl hD => by
    refine lc_range (lo := 0) (n := r) (fun i H' => Ex H2 H' ∧ ∃ ts, H' Dl = some (.lst ts) ∧ ts.length = i ∧ ∀ (j : Nat) t, ts[j]? = some t → E j t H') ⟨Ex.new hD, [], upd_same, rfl, fun j t h => by simp at h⟩ (fun i H3 hi ⟨ee, ts, hts, hlen, hall⟩ => ?_) (fun H3 ⟨ee, ts, hts, hlen, hall⟩ => qq _ H3 (k2.trans ee) ⟨Dl, ts, rfl, hts, hlen, hall⟩)
    have e0 : V.int ((0 : Int) + (i : Int)) = nv i := congrArg V.int (Int.zero_add _)
    rw [e0]
    refine ⟨hw _, ?_⟩
    show EB X sc elt ((wipe σ (own.map (·.2))).set j (some (nv i))) H3 _
    intro s H0 C cl fp
    refine hel i H3 ((k1.trans k2).trans ee) hi s H0 C cl fp H3 (Ex.refl _) _ fun y H4 k4 hy => ⟨ts, k4 _ _ hts, Nat.lt_of_lt_of_le (show ts.length < 1001 by omega) (by decide), ?_⟩
    exact lc_step hE hD ee hts hlen hall k4 hy⟩⟩
/-- [f for f in flags if t(f)] -/
theorem x_lcF (j : Nat) {n : Str} {g : Addr} {iter cond : Expr} {sc : Scope} {q1 q2 : Pos} (own : List (Str × Nat)) (pr : Giv → Bool) (he : Is X σ H iter (.ref g)) (hx : FlAt l g H) (hz : l.length ≤ 1000) (hN : X.N.Nodup) (ok : BlkOk X.N X.env.scope sc own)
    (ht : ∀ (i : Nat) f t H1, Ex H H1 → l[i]? = some f → Flg H1 t f → ∀ (s : Shared) (H0 : Hp) (C : Addr) (cl : List (Str × Addr)) (fp : List Addr), Tru (X.blk s H0 sc (compEnvC sc cl C X.env) fp) ((wipe σ (own.map (·.2))).set j (some t)) H1 cond (pr f))
    (hv : ∀ t H1, ∀ (s : Shared) (H0 : Hp) (C : Addr) (cl : List (Str × Addr)) (fp : List Addr), Is (X.blk s H0 sc (compEnvC sc cl C X.env) fp) ((wipe σ (own.map (·.2))).set j (some t)) H1 (.Name n q2) t)
    (hg : ∀ (s : Shared) (H : Hp) (C : Addr) (cl : List (Str × Addr)) (fp : List Addr), PG (X.blk s H sc (compEnvC sc cl C X.env) fp) (.Name n q1) (gName j)) (hc : X.calm = true := by rfl) (hw : ∀ x, wipe ((wipe σ (own.map (·.2))).set j (some x)) (own.map (·.2)) = wipe σ (own.map (·.2)) := by intro _; rfl)
    (hfs : ∀ x, foldedSetIterable iter X.env x = pure x := by intro _; rfl) : Gets X σ H (.ListComp (.Name n q2) [⟨.Name n q1, iter, [cond], 0⟩] sc pos) (GL (l.filter pr)) := fun H1 k1 Q qq => by
  obtain ⟨ts, hgt, hts⟩ := hx
  refine ⟨_, pe_lc (g := gName j) (tt := TB X sc cond) hc hN (pi_list EW.pe) ok hg (fun s H C cl fp => pts_one (TB.pt s H C cl fp)) (fun s H C cl fp => EB.pe s H C cl fp) hfs, he H1 k1 _ fun H2 k2 => ⟨g, rfl, ⟨ts, SqL.of ((k1.trans k2) _ _ hgt)⟩, fun Dl hD => ?_⟩⟩
  refine lc_list (xs := ts) (fun i H' => Ex H2 H' ∧ ∃ us, H' Dl = some (.lst us) ∧ us.length ≤ i ∧ Paired (Flg H') us ((l.take i).filter pr)) ⟨Ex.new hD, [], upd_same, Nat.le_refl _, .nil⟩ (fun i H' _ ⟨ee, _⟩ => SqL.of (((k1.trans k2).trans ee) _ _ hgt)) (fun i x H3 hi ⟨ee, us, hus, hlen, hall⟩ => ⟨hw x, ?_⟩) (fun H3 ⟨ee, us, hus, hlen, hall⟩ => ?_)
  · obtain ⟨f, hf, hfl⟩ := paired_get hts hi
    have h3 : Flg H3 x f := hfl.mono ((k1.trans k2).trans ee)
    show TB X sc cond ((wipe σ (own.map (·.2))).set j (some x)) H3 _
    intro s H0 C cl fp
    refine ht i f x H3 ((k1.trans k2).trans ee) hf h3 s H0 C cl fp H3 (Ex.refl _) _ fun H4 k4 => ?_
    cases hb : pr f with
    | true =>
      rw [if_pos rfl]
      intro s H0 C cl fp
      refine hv x H4 s H0 C cl fp H4 (Ex.refl _) _ fun H5 k5 => ⟨us, (k4.trans k5) _ _ hus, Nat.lt_of_lt_of_le (show us.length < 1001 by have := (List.getElem?_eq_some_iff.mp hf).1; omega) (by decide), Ex.mut ((ee.trans k4).trans k5) hD, _, upd_same, by rw [List.length_append]; simp only [List.length_cons, List.length_nil]; omega, ?_⟩
      have tx : Tx H3 (upd H5 Dl (.lst (us ++ [x]))) := fun a xs h => by
        rw [upd_ne (fun z => by rw [z, hus] at h; cases h)]
        exact (k4.trans k5) _ _ h
      rw [take_more hf, List.filter_append, List.filter_cons, hb]
      exact paired_app (Paired.mapP hall fun _ _ z => z.tx tx) (paired_one (h3.tx tx))
    | false =>
      rw [if_neg Bool.false_ne_true]
      refine ⟨ee.trans k4, us, k4 _ _ hus, Nat.le_succ_of_le hlen, ?_⟩
      rw [take_more hf, List.filter_append, List.filter_cons, hb]
      have e : (l.take i).filter pr ++ (if false = true then f :: List.filter pr [] else List.filter pr []) = (l.take i).filter pr := by simp
      rw [e]
      exact Paired.mapP hall fun _ _ z => z.mono k4
  · rw [paired_len hts, List.take_length] at hall
    exact qq _ H3 (k2.trans ee) ⟨Dl, rfl, us, hus, hall⟩
end
/-- what a comprehension of flags makes -/
theorem made_flags {l : List Giv} {v : V} {H : Hp} (h : Made l.length (fun i t H => ∃ f, l[i]? = some f ∧ Flg H t f) v H) : GL l v H := by
  obtain ⟨p, ts, rfl, hp, hlen, hall⟩ := h
  refine ⟨p, rfl, ts, hp, ?_⟩
  have key : ∀ (ts : List V) (l : List Giv), ts.length = l.length → (∀ (j : Nat) t, ts[j]? = some t → ∃ f, l[j]? = some f ∧ Flg H t f) → Paired (Flg H) ts l := by
    intro ts
    induction ts with
    | nil =>
      intro l hl _
      cases l with
      | nil => exact .nil
      | cons _ _ => cases hl
    | cons t r ih =>
      intro l hl hall
      cases l with
      | nil => cases hl
      | cons f m =>
        obtain ⟨f', h1, h2⟩ := hall 0 t rfl
        have e : f = f' := Option.some.inj h1
        subst e
        exact .cons h2 (ih m (Nat.succ.inj hl) fun j u hu => by
          obtain ⟨f2, h3, h4⟩ := hall (j + 1) u (by simpa using hu)
          exact ⟨f2, by simpa using h3, h4⟩)
  exact key ts l hlen hall
theorem steady_flags (l : List Giv) : Steady fun i t H => ∃ f, l[i]? = some f ∧ Flg H t f := fun i t H1 H2 k h => by
  obtain ⟨f, h1, h2⟩ := h
  exact ⟨f, h1, h2.tx k⟩
end Fw
/-! FwEnd: the end of a Spec row over a head by facts (the written part found by the Hook). -/
namespace Fw
open PySem PySem.Spec PyProof.Rows L2 Evl
/-! ### the Hook: hookD's facts and one more look -/
abbrev AlX : Type := He.AlD × Bool
def obsXG (n : Nat) (fa : List He.Fa) (fn : List He.DefD) (ex : PySem.W.Frag → Bool) (g : Addr → Option Obj) : AlX := (He.obsD fa fn (He.frG g (He.asD g n)), ex (He.frG g (He.asD g n)))
structure SaysX (fa : List He.Fa) (fn : List He.DefD) (ex : PySem.W.Frag → Bool) (K : PySem.W.Frag) : Prop where
  d : He.SaysD fa fn K
  x : ex K = true
def hookX (n : Nat) (fa : List He.Fa) (fn : List He.DefD) (ex : PySem.W.Frag → Bool) : PySem.W.Hook where
  α := AlX
  obs := fun s => obsXG n fa fn ex s.heap.get?
  val := fun _ => (He.valD fn, true)
  says := fun _ h => ∃ K : PySem.W.Frag, K.In h ∧ SaysX fa fn ex K
  of := fun _ _ e => ⟨_, He.frG_in, congrArg (fun z : AlX => z.1) e, congrArg (fun z : AlX => z.2) e⟩
  keeps := fun _ _ _ ⟨K, hK, c⟩ k => ⟨K, PySem.W.Frag.In.keeps hK k, c⟩
theorem obsXG_eq {n : Nat} {fa : List He.Fa} {fn : List He.DefD} {ex : PySem.W.Frag → Bool} {g : Addr → Option Obj} {s : Shared} (h : ∀ a, g a = s.heap.get? a) : obsXG n fa fn ex g = (hookX n fa fn ex).obs s := by
  have e : g = s.heap.get? := funext h
  rw [e] <;> rfl
/-! ### an own error over ValueError, with an __init__ of its own -/
open PySem.W in
def oexC (K : PySem.W.Frag) (C : Addr) : Bool := match K.lookup C with
  | some ⟨.type "type", _, .cls cd, sl⟩ => (match cd.mro, sl.toList with
    | .ref B :: bm, [_, _, _, _, some (.builtin n), _] => B == C && (n == "ValueError.__new__" && (cd.hasDict && (!cd.hasDel && PySem.HandSPX.refsVE bm)))
    | _, _ => false)
  | _ => false
def veI (K : PySem.W.Frag) : Bool := match PySem.W.findCls K (.type "ValueError") (.type "type") "__init__" with
  | some (.val (.builtin b)) => b == "ValueError.__init__"
  | _ => false
def oexB (K : PySem.W.Frag) (n f : Str) : Bool :=
  oexC K (He.ga K n) && (He.eqO (PySem.W.findIn K (.ref (He.ga K n)) "__setattr__") (some (some (.builtin "object.__setattr__"))) && (decide (PySem.W.subIn K (.ref (He.ga K n)) (.type "BaseException") = some true) &&
    (decide (PySem.W.typeIn K (.ref (He.ga K n)) = some (.type "type")) && (PySem.W.keepIn K (.ref (He.ga K n)) && (He.eqO (PySem.W.findIn K (.ref (He.ga K n)) "__init__") (some (some (.ref (He.ma K (He.ga K n) "__init__")))) &&
    (decide (PySem.W.typeIn K (.ref (He.ma K (He.ga K n) "__init__")) = some (.type "function")) && (xfB K (He.ga K n) && (He.eqO (PySem.W.findIn K (.ref (He.ga K n)) f) (some none) && (decide (PySem.W.exmOne K (.ref (He.ga K n)) (.ref (He.ga K n)) = some true) && veI K)))))))))
structure OexF (K : PySem.W.Frag) (n f : Str) : Prop where
  o : OexC K (He.ga K n)
  i : PySem.W.findIn K (.ref (He.ga K n)) "__init__" = some (some (.ref (He.ma K (He.ga K n) "__init__")))
  t : PySem.W.typeIn K (.ref (He.ma K (He.ga K n) "__init__")) = some (.type "function")
  x : XfC K (He.ga K n)
  no : PySem.W.findIn K (.ref (He.ga K n)) f = some none
  e : PySem.W.exmOne K (.ref (He.ga K n)) (.ref (He.ga K n)) = some true
  v : PySem.W.findCls K (.type "ValueError") (.type "type") "__init__" = some (.val (.builtin "ValueError.__init__"))
open PySem.W in
theorem oexC_ok {K : PySem.W.Frag} {C : Addr} (q : oexC K C = true) : ∃ nm qn N bs bm sn sub ab col dd k0 k1 k2 k3 k5, K.lookup C = some (excClassObj nm qn C N bs bm true sn sub ab col dd k0 k1 k2 k3 k5 "ValueError.__new__") ∧ PySem.HandSPX.refsVE bm = true := by
  unfold oexC at q
  split at q
  · rename_i dd cd sl ho
    split at q
    · rename_i B bm k0 k1 k2 k3 n k5 hm hs
      simp only [Bool.and_eq_true, beq_iff_eq, Bool.not_eq_true'] at q
      obtain ⟨rfl, rfl, hd, hdel, ht⟩ := q
      obtain ⟨nm, bs, mro, ns, qn, hd', sn, sub, ab, col, del⟩ := cd
      dsimp only at hm hdel hd
      subst hm hdel hd
      have hsl : sl = #[k0, k1, k2, k3, some (.builtin "ValueError.__new__"), k5] := by
        obtain ⟨l⟩ := sl
        simp only at hs
        rw [hs]
      subst hsl
      exact ⟨nm, qn, ns, bs, bm, sn, sub, ab, col, dd, k0, k1, k2, k3, k5, ho, ht⟩
    · cases q
  · cases q
theorem veI_ok {K : PySem.W.Frag} (q : veI K = true) : PySem.W.findCls K (.type "ValueError") (.type "type") "__init__" = some (.val (.builtin "ValueError.__init__")) := by
  unfold veI at q
  split at q
  · rename_i b h
    rw [h, beq_iff_eq.mp q]
  · cases q
theorem oexB_ok {K : PySem.W.Frag} {n f : Str} (q : oexB K n f = true) : OexF K n f := by
  obtain ⟨q1, q⟩ := He.ba q
  obtain ⟨q2, q⟩ := He.ba q
  obtain ⟨q3, q⟩ := He.ba q
  obtain ⟨q4, q⟩ := He.ba q
  obtain ⟨q5, q⟩ := He.ba q
  obtain ⟨q6, q⟩ := He.ba q
  obtain ⟨q7, q⟩ := He.ba q
  obtain ⟨q8, q⟩ := He.ba q
  obtain ⟨q9, q⟩ := He.ba q
  obtain ⟨q10, q11⟩ := He.ba q
  exact ⟨⟨oexC_ok q1, He.eqO_ok q2, of_decide_eq_true q3, of_decide_eq_true q4, q5⟩, He.eqO_ok q6, of_decide_eq_true q7, xfB_ok q8, He.eqO_ok q9, of_decide_eq_true q10, veI_ok q11⟩
/-! ### the row's end -/
open PySem.W (Codec OpenSpec) in
theorem walk_specE {r : OpenSpec} {k : Nat} {q : Program} {loose : List Str} {XP : (Str → Option Value) → Heap → Prop} {YP : World → Heap → Prop} {d : DefRec} {ps : List Str}
    (hwell : r.wellSaid = true) (hlen : r.args.length = ps.length) (hr : Room k callerA)
    (F : ∀ (w : World) (mg : Str → Option Value) (fa : Addr) (h : Heap), YP w h → h.Ns mainGlobals mg → mg d.name = some (.ref fa) →
      ∃ (K : PySem.W.Frag) (fd : FuncData) (sp : Sp), K.In h ∧ (∀ (s : Shared) (us : List Value), us.length = ps.length → BindsTo s fd ⟨us, []⟩ (ps.zip us)) ∧
        (∀ (H : Hp) (xs : List V) (a : Codec.denoteAll r.args), OnlyF H → Codec.withinAll r.args a = true → Codec.app r.args r.asked a = true → DwAll K H xs (Codec.encAll r.args a) →
          sp xs H (fun v H' => Dw K H' v (r.ret.enc (Codec.app r.args r.f a))) fun _ _ _ => False) ∧
        ∀ base : Heap, K.In base → base.Ns mainGlobals mg → FnOk r.prog w K mg base CX0 k fa fd ps sp) :
    PySem.W.WalkOS q loose XP YP r d [] (fun f vs => PySem.call f vs) := by
  intro w s₀ s₁ mg mb G Y fa o pm cd doc dV kV ho hd hcd hD hmg hg args vals as hpre hlay hrd hwl hlo
  obtain ⟨a, e1, e2⟩ := PySem.W.os_pre_some hpre
  obtain ⟨e3, hwi⟩ := Codec.encAll_of_decAll r.args args a e1
  subst e3
  obtain ⟨K, fd, sp, KX, hb, hsp, hF⟩ := F w mg fa _ Y G.T.g hmg
  refine PySem.W.enter_call (codeAny_mono (spec_call (R := []) (cl := classAt s₀.heap) (d0 := r.ret.enc (Codec.app r.args r.f a)) KX G.T.g G.T.b G.T.builtins G.T.nolimit hg hwl (pl_encAll _ _) (layable_weight hlay) hr hF hb (by rw [encAll_len]; exact hlen)
    (fun H xs hO hS => hsp H xs a hO hwi e2 hS) fun H e s' z => z.elim) fun r' s' hq => ?_)
  obtain ⟨u, as', rfl, h1, h2, h3, h4⟩ := hq
  exact ⟨.inl ⟨u, _, as', rfl, fun _ => rfl, h1, (OpenSpec.post_iff hwell hwi _ _).mpr rfl, fun z => Bool.noConfusion (show false = true from z)⟩, h2, h3, h4⟩
end Fw
/-! FwMath2: bit by bit; bits looked for; bytes in the other order. -/
namespace Fw
theorem bitAt_test (x i : Nat) : FwOps.bitAt x i = x.testBit i := Nat.testBit_eq_decide_div_mod_eq.symm
theorem bits_succ (n : Nat) (f : Bool → Bool → Bool) (a b : Nat) : FwOps.bits (n + 1) f a b = FwOps.bits n f a b + (if f (FwOps.bitAt a n) (FwOps.bitAt b n) = true then 2 ^ n else 0) := by
  unfold FwOps.bits
  rw [List.range_succ, List.foldl_append]
  show (if f (FwOps.bitAt a n) (FwOps.bitAt b n) = true then _ + 2 ^ n else _) = _
  split <;> rfl
theorem mod_succ (x n : Nat) : x % 2 ^ (n + 1) = x % 2 ^ n + (if FwOps.bitAt x n = true then 2 ^ n else 0) := by
  rw [Nat.mod_pow_succ, bit_if]
  split
  · rw [Nat.mul_one]
  · rw [Nat.mul_zero]
theorem bits_or (a b : Nat) : ∀ n, FwOps.bits n (fun x y => x || y) a b + FwOps.bits n (fun x y => x && y) a b = a % 2 ^ n + b % 2 ^ n
  | 0 => by
    rw [Nat.pow_zero, Nat.mod_one, Nat.mod_one]
    rfl
  | n + 1 => by
    have ih := bits_or a b n
    rw [bits_succ, bits_succ, mod_succ, mod_succ]
    cases FwOps.bitAt a n <;> cases FwOps.bitAt b n <;> simp <;> omega
theorem bits_xor (a b : Nat) : ∀ n, FwOps.bits n (fun x y => x != y) a b + 2 * FwOps.bits n (fun x y => x && y) a b = a % 2 ^ n + b % 2 ^ n
  | 0 => by
    rw [Nat.pow_zero, Nat.mod_one, Nat.mod_one]
    rfl
  | n + 1 => by
    have ih := bits_xor a b n
    rw [bits_succ, bits_succ, mod_succ, mod_succ]
    cases FwOps.bitAt a n <;> cases FwOps.bitAt b n <;> simp <;> omega
theorem bits_and (a b : Nat) : ∀ n, FwOps.bits n (fun x y => x && y) a b = (a &&& b) % 2 ^ n
  | 0 => by
    rw [Nat.pow_zero, Nat.mod_one]
    rfl
  | n + 1 => by
    rw [bits_succ, mod_succ, bits_and a b n]
    have e : FwOps.bitAt (a &&& b) n = (FwOps.bitAt a n && FwOps.bitAt b n) := by
      rw [bitAt_test, bitAt_test, bitAt_test, Nat.testBit_and]
    rw [e]
theorem and_bits {w a b : Nat} (hb : b < 2 ^ w) : a &&& b = FwOps.bits w (fun x y => x && y) a b := by
  rw [bits_and, Nat.mod_eq_of_lt (Nat.and_lt_two_pow a hb)]
theorem or_bits {w a b : Nat} (ha : a < 2 ^ w) (hb : b < 2 ^ w) : (a : Int) + (b : Int) - ((a &&& b : Nat) : Int) = ((FwOps.bits w (fun x y => x || y) a b : Nat) : Int) := by
  have h := bits_or a b w
  rw [Nat.mod_eq_of_lt ha, Nat.mod_eq_of_lt hb, ← and_bits hb] at h
  omega
theorem xor_bits {w a b : Nat} (ha : a < 2 ^ w) (hb : b < 2 ^ w) : (a : Int) + (b : Int) - 2 * ((a &&& b : Nat) : Int) = ((FwOps.bits w (fun x y => x != y) a b : Nat) : Int) := by
  have h := bits_xor a b w
  rw [Nat.mod_eq_of_lt ha, Nat.mod_eq_of_lt hb, ← and_bits hb] at h
  omega
/-! ### bits looked for -/
theorem odd_part : ∀ b : Nat, 0 < b → ∃ m q, b = 2 ^ (m + 1) * q + 2 ^ m := by
  intro b
  induction b using Nat.strongRecOn with
  | ind b ih =>
    intro hb
    rcases Nat.mod_two_eq_zero_or_one b with h | h
    · obtain ⟨m, q, e⟩ := ih (b / 2) (by omega) (by omega)
      refine ⟨m + 1, q, ?_⟩
      have e2 : b = 2 * (b / 2) := by omega
      rw [e2, e, Nat.pow_succ 2 (m + 1), Nat.pow_succ 2 m, Nat.mul_add]
      have k : ∀ x : Nat, 2 * (x * q) = x * 2 * q := fun x => by rw [Nat.mul_comm x 2, Nat.mul_assoc]
      rw [k]
      omega
    · exact ⟨0, b / 2, by rw [Nat.pow_zero]; show b = 2 ^ 1 * (b / 2) + 1; omega⟩
theorem low_and (m q : Nat) : (2 ^ (m + 1) * q + 2 ^ m) &&& (2 ^ (m + 1) * q + 2 ^ m - 1) = 2 ^ (m + 1) * q := by
  have hp := two_pos m
  have e1 : 2 ^ (m + 1) * q + 2 ^ m - 1 = 2 ^ (m + 1) * q + (2 ^ m - 1) := by omega
  have h1 : 2 ^ m < 2 ^ (m + 1) := by rw [Nat.pow_succ]; omega
  rw [e1]
  refine Nat.eq_of_testBit_eq fun i => ?_
  have e3 := Nat.testBit_two_pow_mul_add q (b := 0) (i := m + 1) (by omega) i
  rw [Nat.add_zero] at e3
  rw [Nat.testBit_and, Nat.testBit_two_pow_mul_add q h1, Nat.testBit_two_pow_mul_add q (show 2 ^ m - 1 < 2 ^ (m + 1) by omega), e3]
  by_cases h : i < m + 1
  · rw [if_pos h, if_pos h, if_pos h, Nat.testBit_two_pow, Nat.testBit_two_pow_sub_one, Nat.zero_testBit]
    by_cases k : m = i
    · subst k
      rw [decide_eq_false (show ¬ m < m by omega), Bool.and_false]
    · rw [decide_eq_false k, Bool.false_and]
  · rw [if_neg h, if_neg h, if_neg h, Bool.and_self]
theorem lowest_is {w m q : Nat} (h : 2 ^ (m + 1) * q + 2 ^ m < 2 ^ w) : FwOps.lowest w (2 ^ (m + 1) * q + 2 ^ m) = m := by
  have hp := two_pos m
  have h1 : 2 ^ m < 2 ^ (m + 1) := by rw [Nat.pow_succ]; omega
  have hm : m < w := by
    by_cases k : m < w
    · exact k
    · have := Nat.pow_le_pow_right (show 0 < 2 by decide) (show w ≤ m by omega)
      omega
  unfold FwOps.lowest
  have e : (List.range w).find? (fun i => FwOps.bitAt (2 ^ (m + 1) * q + 2 ^ m) i) = some m := by
    refine List.find?_range_eq_some.mpr ⟨?_, List.mem_range.mpr hm, fun j hj => ?_⟩
    · rw [bitAt_test, Nat.testBit_two_pow_mul_add q h1, if_pos (by omega), Nat.testBit_two_pow_self]
    · rw [bitAt_test, Nat.testBit_two_pow_mul_add q h1, if_pos (by omega), Nat.testBit_two_pow, decide_eq_false (by omega)]
      rfl
  rw [e]
  rfl
/-- b less (b and b - 1): the lowest 1 alone -/
theorem low_alone {w b : Nat} (h0 : 0 < b) (h : b < 2 ^ w) : (b : Int) - ((b &&& (b - 1) : Nat) : Int) = ((2 ^ FwOps.lowest w b : Nat) : Int) := by
  obtain ⟨m, q, rfl⟩ := odd_part b h0
  rw [lowest_is h, low_and]
  omega
theorem highest_succ (w b : Nat) : FwOps.highest (w + 1) b = if FwOps.bitAt b w = true then w else FwOps.highest w b := by
  unfold FwOps.highest
  rw [List.range_succ, List.reverse_append]
  show ((w :: (List.range w).reverse).find? _).getD 0 = _
  rw [List.find?_cons]
  cases h : FwOps.bitAt b w <;> rfl
theorem highest_is {b : Nat} (h0 : 0 < b) : ∀ {w : Nat}, b < 2 ^ w → FwOps.highest w b = b.log2
  | 0, h => by
    rw [Nat.pow_zero] at h
    omega
  | w + 1, h => by
    rw [highest_succ]
    have hb := bit_if b w
    have hp := two_pos w
    rw [Nat.pow_succ] at h
    by_cases hlt : b < 2 ^ w
    · rw [Nat.div_eq_of_lt hlt] at hb
      cases hk : FwOps.bitAt b w with
      | true =>
        rw [hk] at hb
        simp at hb
      | false =>
        rw [if_neg Bool.false_ne_true]
        exact highest_is h0 hlt
    · have e : b / 2 ^ w = 1 := Nat.div_eq_of_lt_le (by omega) (by omega)
      rw [e] at hb
      cases hk : FwOps.bitAt b w with
      | true =>
        rw [if_pos rfl]
        have h1 : w ≤ b.log2 := (Nat.le_log2 (by omega)).mpr (by omega)
        have h2 : b.log2 < w + 1 := (Nat.log2_lt (by omega)).mpr (by rw [Nat.pow_succ]; omega)
        omega
      | false =>
        rw [hk] at hb
        simp at hb
/-! ### bytes in the other order -/
def swapRun (a i : Nat) : Nat := (List.range i).foldl (fun (x i : Nat) => x * 256 + a / 256 ^ i % 256) 0
theorem swapRun_succ (a i : Nat) : swapRun a (i + 1) = swapRun a i * 256 + a / 2 ^ (8 * i) % 256 := by
  unfold swapRun
  rw [List.range_succ, List.foldl_append, Nat.pow_mul]
  rfl
theorem swapRun_lt (a : Nat) : ∀ i, swapRun a i < 2 ^ (8 * i)
  | 0 => by
    show 0 < 2 ^ 0
    decide
  | i + 1 => by
    rw [swapRun_succ]
    have ih := swapRun_lt a i
    have h := Nat.mod_lt (a / 2 ^ (8 * i)) (show 0 < 256 by decide)
    have e : 2 ^ (8 * (i + 1)) = 2 ^ (8 * i) * 256 := by rw [Nat.mul_add, Nat.pow_add]
    omega
/-! ### a bit turned -/
theorem turn_bit (a i : Nat) : 1 - a / 2 ^ i % 2 = if (!FwOps.bitAt a i) = true then 1 else 0 := by
  rw [bit_if]
  cases FwOps.bitAt a i <;> rfl
theorem withBit_same (a i : Nat) : FwOps.withBit a i (FwOps.bitAt a i) = a := if_pos rfl
end Fw
/-! FwMath3: products and quotients. -/
namespace Fw
theorem pow_cast (w : Nat) : ((2 ^ w : Nat) : Int) = (2 : Int) ^ w := Int.natCast_pow 2 w
theorem fit_is {w : Nat} (hw : 1 ≤ w) (z : Int) : (decide (0 - ((2 ^ w : Nat) : Int) ≤ 2 * z) && decide (2 * z < ((2 ^ w : Nat) : Int))) = FwOps.inSigned w z := by
  have e := two_w hw
  unfold FwOps.inSigned
  rw [← pow_cast (w - 1)]
  congr 1
  · exact decide_eq_decide.mpr (by omega)
  · exact decide_eq_decide.mpr (by omega)
theorem signed_abs {w x : Nat} (hw : 1 ≤ w) (hx : x < 2 ^ w) : (FwOps.signed w x).natAbs ≤ 2 ^ (w - 1) := by
  have e := two_w hw
  by_cases h : 2 * x < 2 ^ w
  · rw [signed_low hw h]
    omega
  · rw [signed_high hw h]
    omega
theorem signed_64 {w x : Nat} (hw : 1 ≤ w) (h64 : w ≤ 64) (hx : x < 2 ^ w) : (FwOps.signed w x).natAbs < 2 ^ 64 := by
  have h := signed_abs hw hx
  have h2 : 2 ^ (w - 1) ≤ 2 ^ 63 := Nat.pow_le_pow_right (by decide) (by omega)
  have h3 : (2 : Nat) ^ 63 < 2 ^ 64 := by decide
  omega
theorem mul_flag (w x : Nat) : decide (x / 2 ^ w ≠ 0) = decide (2 ^ w ≤ x) := by
  refine decide_eq_decide.mpr ?_
  have hp := two_pos w
  rw [Ne, Nat.div_eq_zero_iff]
  omega
theorem wrap_is (w : Nat) (z : Int) : z % ((2 ^ w : Nat) : Int) = ((FwOps.wrap w z : Nat) : Int) := by
  unfold FwOps.wrap
  rw [Int.toNat_of_nonneg (Int.emod_nonneg _ (by have := two_pos w; rw [← pow_cast]; omega)), pow_cast]
theorem wrap_two (w : Nat) (z : Int) : z % ((2 ^ w * 2 ^ w : Nat) : Int) = ((FwOps.wrap (2 * w) z : Nat) : Int) := by
  rw [← wrap_is, Nat.two_mul, Nat.pow_add]
theorem signed_zero {w b : Nat} (hw : 1 ≤ w) (hb : b < 2 ^ w) : FwOps.signed w b = 0 ↔ b = 0 := by
  by_cases h : 2 * b < 2 ^ w
  · rw [signed_low hw h]
    omega
  · rw [signed_high hw h]
    have := two_pos w
    omega
theorem signed_wide {w a c : Nat} (hw : 1 ≤ w) (ha : a < 2 ^ w) (hc : c < 2 ^ w) : FwOps.signed w c * ((2 ^ w : Nat) : Int) + (a : Int) = FwOps.signed (2 * w) (c * 2 ^ w + a) := by
  have e := two_w hw
  have e2 : 2 ^ (2 * w) = 2 ^ w * 2 ^ w := by rw [Nat.two_mul, Nat.pow_add]
  have hc1 : c * 2 ^ w + 2 ^ w ≤ 2 ^ w * 2 ^ w := by
    have := Nat.mul_le_mul_right (2 ^ w) (show c + 1 ≤ 2 ^ w from hc)
    rw [Nat.add_mul, Nat.one_mul] at this
    exact this
  by_cases h : 2 * c < 2 ^ w
  · have hh : 2 * c + 2 ≤ 2 ^ w := by omega
    have k := Nat.mul_le_mul_right (2 ^ w) hh
    rw [Nat.add_mul, Nat.mul_assoc] at k
    rw [signed_low hw h, signed_low (by omega) (by rw [e2]; omega), Int.natCast_add, Int.natCast_mul]
  · have hh : 2 ^ w ≤ 2 * c := by omega
    have k := Nat.mul_le_mul_right (2 ^ w) hh
    rw [Nat.mul_assoc] at k
    rw [signed_high hw h, signed_high (by omega) (by rw [e2]; omega), e2, Int.natCast_add, Int.natCast_mul, Int.natCast_mul, Int.sub_mul]
    omega
theorem tdiv_is (n d : Int) : (if (decide (n < 0) != decide (d < 0)) = true then 0 - ((n.natAbs / d.natAbs : Nat) : Int) else ((n.natAbs / d.natAbs : Nat) : Int)) = n.tdiv d := by
  rcases Int.le_total 0 n with hn | hn
  · obtain ⟨a, rfl⟩ := Int.eq_ofNat_of_zero_le hn
    rcases Int.le_total 0 d with hd | hd
    · obtain ⟨b, rfl⟩ := Int.eq_ofNat_of_zero_le hd
      rw [decide_eq_false (by omega), decide_eq_false (by omega), if_neg (by decide)]
      rfl
    · obtain ⟨b, hb⟩ := Int.eq_ofNat_of_zero_le (show 0 ≤ -d by omega)
      obtain rfl : d = -(b : Int) := by omega
      rw [Int.tdiv_neg, Int.natAbs_neg, Int.natAbs_natCast, Int.natAbs_natCast, decide_eq_false (show ¬ (a : Int) < 0 by omega)]
      by_cases h0 : b = 0
      · subst h0
        simp
      · rw [decide_eq_true (by omega), if_pos (by decide), ← Int.ofNat_tdiv]
        omega
  · obtain ⟨a, ha⟩ := Int.eq_ofNat_of_zero_le (show 0 ≤ -n by omega)
    obtain rfl : n = -(a : Int) := by omega
    rcases Int.le_total 0 d with hd | hd
    · obtain ⟨b, rfl⟩ := Int.eq_ofNat_of_zero_le hd
      rw [Int.neg_tdiv, Int.natAbs_neg, Int.natAbs_natCast, Int.natAbs_natCast, decide_eq_false (show ¬ (b : Int) < 0 by omega)]
      by_cases h0 : a = 0
      · subst h0
        simp
      · rw [decide_eq_true (by omega), if_pos (by decide), ← Int.ofNat_tdiv]
        omega
    · obtain ⟨b, hb⟩ := Int.eq_ofNat_of_zero_le (show 0 ≤ -d by omega)
      obtain rfl : d = -(b : Int) := by omega
      rw [Int.neg_tdiv, Int.tdiv_neg, Int.natAbs_neg, Int.natAbs_neg, Int.natAbs_natCast, Int.natAbs_natCast, Int.neg_neg, ← Int.ofNat_tdiv]
      by_cases h0 : a = 0
      · subst h0
        simp
      · by_cases h1 : b = 0
        · subst h1
          simp
        · rw [decide_eq_true (by omega), decide_eq_true (by omega), if_neg (by decide)]
theorem tmod_is (n d : Int) : n - n.tdiv d * d = n.tmod d := by
  rw [Int.tmod_def, Int.mul_comm]
end Fw
/-! FwMath4: shifts and turns. -/
namespace Fw
theorem count_lt (w n : Nat) : FwOps.count w n < 64 := by
  unfold FwOps.count
  split <;> omega
theorem bit_ne (x i y j : Nat) : decide (x / 2 ^ i % 2 ≠ y / 2 ^ j % 2) = (FwOps.bitAt x i != FwOps.bitAt y j) := by
  unfold FwOps.bitAt
  rcases Nat.mod_two_eq_zero_or_one (x / 2 ^ i) with h | h <;> rcases Nat.mod_two_eq_zero_or_one (y / 2 ^ j) with k | k <;> rw [h, k] <;> rfl
theorem turned_is {W x h : Nat} (hh : h < W) (hx : x < 2 ^ W) : x * 2 ^ h % 2 ^ W + x / 2 ^ (W - h) = FwOps.turned W x h := by
  have e : 2 ^ W = 2 ^ (W - h) * 2 ^ h := by rw [← Nat.pow_add, Nat.sub_add_cancel (Nat.le_of_lt hh)]
  unfold FwOps.turned
  have p1 := two_pos (W - h)
  have p2 := two_pos h
  have q : x / 2 ^ (W - h) < 2 ^ h := by
    rw [Nat.div_lt_iff_lt_mul p1, Nat.mul_comm, ← e]
    exact hx
  have m : x * 2 ^ h % 2 ^ W = x % 2 ^ (W - h) * 2 ^ h := by rw [e, Nat.mul_mod_mul_right]
  have l : x % 2 ^ (W - h) + 1 ≤ 2 ^ (W - h) := Nat.mod_lt _ p1
  have k := Nat.mul_le_mul_right (2 ^ h) l
  rw [Nat.add_mul, Nat.one_mul, ← e, ← m] at k
  rw [← Nat.mod_add_mod (x * 2 ^ h) (2 ^ W) (x / 2 ^ (W - h))]
  exact (Nat.mod_eq_of_lt (Nat.lt_of_lt_of_le (Nat.add_lt_add_left q _) k)).symm
theorem turned_lt (W x h : Nat) : FwOps.turned W x h < 2 ^ W := Nat.mod_lt _ (two_pos W)
theorem top_mod {w x : Nat} (hw : 1 ≤ w) : FwOps.bitAt (x % 2 ^ w) (w - 1) = FwOps.bitAt x (w - 1) := by
  rw [bitAt_test, bitAt_test, Nat.testBit_mod_two_pow, decide_eq_true (by omega), Bool.true_and]
theorem one_if {n : Nat} {g : FwOps.Given} (h : n ≠ 1) : FwOps.onlyIf (decide (n = 1)) g = [] := by
  rw [decide_eq_false h]
  rfl
theorem one_same {n : Nat} {x y : FwOps.Given} (h : n = 1 → x = y) : FwOps.onlyIf (decide (n = 1)) x = FwOps.onlyIf (decide (n = 1)) y := by
  by_cases k : n = 1
  · rw [h k]
  · rw [decide_eq_false k]
    rfl
end Fw
/-! FwMath5: every flag that an operation gives is one of the lowest. -/
namespace Fw
def Sm (l : List FwOps.Given) : Prop := ∀ g ∈ l, g.1 ≤ 64
def SmG (r : FwOps.Gives) : Prop := match r with
  | .ok (_, _, l) => Sm l
  | .error _ => True
theorem sm_nil : Sm [] := fun _ h => absurd h List.not_mem_nil
theorem sm_cons {g : FwOps.Given} {l : List FwOps.Given} (h : g.1 ≤ 64) (t : Sm l) : Sm (g :: l) := fun x hx => by
  rcases List.mem_cons.mp hx with rfl | hx
  · exact h
  · exact t x hx
theorem sm_app {l m : List FwOps.Given} (h : Sm l) (t : Sm m) : Sm (l ++ m) := fun x hx => by
  rcases List.mem_append.mp hx with hx | hx
  · exact h x hx
  · exact t x hx
theorem sm_only {b : Bool} {g : FwOps.Given} (h : g.1 ≤ 64) : Sm (FwOps.onlyIf b g) := by
  unfold FwOps.onlyIf
  split
  · exact sm_cons h sm_nil
  · exact sm_nil
theorem sm_shows (w x : Nat) : Sm (FwOps.shows w x) := sm_cons (show 6 ≤ 64 by decide) (sm_cons (show 7 ≤ 64 by decide) (sm_cons (show 2 ≤ 64 by decide) sm_nil))
theorem sm_sum (w a b k : Nat) : Sm (FwOps.sumFlags w a b k) := sm_app (sm_shows _ _) (sm_cons (show 0 ≤ 64 by decide) (sm_cons (show 4 ≤ 64 by decide) (sm_cons (show 11 ≤ 64 by decide) sm_nil)))
theorem sm_less (w a b k : Nat) : Sm (FwOps.lessFlags w a b k) := sm_app (sm_shows _ _) (sm_cons (show 0 ≤ 64 by decide) (sm_cons (show 4 ≤ 64 by decide) (sm_cons (show 11 ≤ 64 by decide) sm_nil)))
theorem sm_but {l : List FwOps.Given} (h : Sm l) : Sm (FwOps.butCarry l) := fun x hx => h x (List.mem_filter.mp hx).1
theorem sm_logic (w : Nat) (f : Bool → Bool → Bool) (a b : Nat) : Sm (FwOps.logic w f a b) := sm_app (sm_shows _ _) (sm_cons (show 0 ≤ 64 by decide) (sm_cons (show 11 ≤ 64 by decide) sm_nil))
theorem sm_c (b : Bool) : Sm [(FwOps.CARRY, b)] := sm_cons (show 0 ≤ 64 by decide) sm_nil
theorem sm_z (b : Bool) : Sm [(FwOps.ZERO, b)] := sm_cons (show 6 ≤ 64 by decide) sm_nil
theorem sm_co (b c : Bool) : Sm [(FwOps.CARRY, b), (FwOps.OVER, c)] := sm_cons (show 0 ≤ 64 by decide) (sm_cons (show 11 ≤ 64 by decide) sm_nil)
theorem sm_hc (b c : Bool) : Sm [(FwOps.HALF, b), (FwOps.CARRY, c)] := sm_cons (show 4 ≤ 64 by decide) (sm_cons (show 0 ≤ 64 by decide) sm_nil)
theorem sg_shifted (w n a lo : Nat) {l : List FwOps.Given} (h : Sm l) : SmG (FwOps.shifted w n a lo l) := by
  unfold FwOps.shifted
  split
  · exact sm_nil
  · exact sm_app (sm_shows _ _) h
theorem sg_turned (n a lo : Nat) {l : List FwOps.Given} (h : Sm l) : SmG (FwOps.turnedBy n a lo l) := by
  unfold FwOps.turnedBy
  split
  · exact sm_nil
  · exact h
theorem sm_oo {b c : Bool} {x y : Bool} : Sm (FwOps.onlyIf b (FwOps.CARRY, x) ++ FwOps.onlyIf c (FwOps.OVER, y)) := sm_app (sm_only (show 0 ≤ 64 by decide)) (sm_only (show 11 ≤ 64 by decide))
theorem sm_co1 {c : Bool} {x y : Bool} : Sm ((FwOps.CARRY, x) :: FwOps.onlyIf c (FwOps.OVER, y)) := sm_cons (show 0 ≤ 64 by decide) (sm_only (show 11 ≤ 64 by decide))
theorem sg_shld (w n a b : Nat) : SmG (FwOps.shld w n a b) := by
  unfold FwOps.shld
  dsimp only
  split
  · exact trivial
  · exact sg_shifted _ _ _ _ sm_co1
theorem sg_shrd (w n a b : Nat) : SmG (FwOps.shrd w n a b) := by
  unfold FwOps.shrd
  dsimp only
  split
  · exact trivial
  · exact sg_shifted _ _ _ _ sm_co1
theorem sg_div (w a b c : Nat) : SmG (FwOps.div w a b c) := by
  unfold FwOps.div
  split
  · exact trivial
  · exact sm_nil
theorem sg_idiv (w a b c : Nat) : SmG (FwOps.idiv w a b c) := by
  unfold FwOps.idiv
  dsimp only
  split
  · exact trivial
  · split
    · exact sm_nil
    · exact trivial
theorem sg_aam (a b : Nat) : SmG (FwOps.aam a b) := by
  unfold FwOps.aam
  split
  · exact trivial
  · exact sm_shows _ _
theorem act_sm (op w a b c : Nat) (k h : Bool) : SmG (FwOps.act op w a b c k h) := by
  unfold FwOps.act
  dsimp only
  split <;> first
    | exact trivial
    | exact sm_nil
    | exact sm_sum _ _ _ _
    | exact sm_less _ _ _ _
    | exact sm_but (sm_sum _ _ _ _)
    | exact sm_but (sm_less _ _ _ _)
    | exact sm_logic _ _ _ _
    | exact sm_c _
    | exact sm_z _
    | exact sm_co _ _
    | exact sg_shifted _ _ _ _ sm_oo
    | exact sg_shifted _ _ _ _ sm_co1
    | exact sg_turned _ _ _ sm_co1
    | exact sg_shld _ _ _ _
    | exact sg_shrd _ _ _ _
    | exact sg_div _ _ _ _
    | exact sg_idiv _ _ _ _
    | exact sg_aam _ _
    | exact sm_shows _ _
    | exact sm_hc _ _
    | exact sm_app (sm_shows _ _) (sm_hc _ _)
end Fw
namespace Fw
open PySem PySem.Spec PyProof.Rows L2 Evl
/-! ### the text by places (printed by gen.py) -/
abbrev RR := PySem.Challenge.rw_flagwork_s01_do
def top (i : Nat) : Stmt := PySem.Challenge.pw_flagwork_s01_do.main.body.getD i (.Pass ⟨0, 0, 0, 0⟩)
def d_bit_of : He.DefD := ⟨("bit_of", none), "bit_of", "bit_of", defArgs (top 7), defBody (top 7), defScope (top 7), [], []⟩
def d_with_bit : He.DefD := ⟨("with_bit", none), "with_bit", "with_bit", defArgs (top 8), defBody (top 8), defScope (top 8), [], []⟩
def d_with_flags : He.DefD := ⟨("with_flags", none), "with_flags", "with_flags", defArgs (top 9), defBody (top 9), defScope (top 9), [], []⟩
def d_Refused_init : He.DefD := ⟨("Refused", some "__init__"), "__init__", "Refused.__init__", defArgs (inClass (top 11) 0), defBody (inClass (top 11) 0), defScope (inClass (top 11) 0), [], []⟩
def d_Operands_init : He.DefD := ⟨("Operands", some "__init__"), "__init__", "Operands.__init__", defArgs (inClass (top 12) 0), defBody (inClass (top 12) 0), defScope (inClass (top 12) 0), [], []⟩
def d_Operands_carry : He.DefD := ⟨("Operands", some "carry"), "carry", "Operands.carry", defArgs (inClass (top 12) 1), defBody (inClass (top 12) 1), defScope (inClass (top 12) 1), [], []⟩
def d_Operands_has_half : He.DefD := ⟨("Operands", some "has_half"), "has_half", "Operands.has_half", defArgs (inClass (top 12) 2), defBody (inClass (top 12) 2), defScope (inClass (top 12) 2), [], []⟩
def d_Operands_signed : He.DefD := ⟨("Operands", some "signed"), "signed", "Operands.signed", defArgs (inClass (top 12) 3), defBody (inClass (top 12) 3), defScope (inClass (top 12) 3), [], []⟩
def d_Operands_top : He.DefD := ⟨("Operands", some "top"), "top", "Operands.top", defArgs (inClass (top 12) 4), defBody (inClass (top 12) 4), defScope (inClass (top 12) 4), [], []⟩
def d_Operands_shows : He.DefD := ⟨("Operands", some "shows"), "shows", "Operands.shows", defArgs (inClass (top 12) 5), defBody (inClass (top 12) 5), defScope (inClass (top 12) 5), [], []⟩
def d_is_even : He.DefD := ⟨("is_even", none), "is_even", "is_even", defArgs (top 13), defBody (top 13), defScope (top 13), [], []⟩
def d_shown : He.DefD := ⟨("shown", none), "shown", "shown", defArgs (top 14), defBody (top 14), defScope (top 14), [], []⟩
def d_plain : He.DefD := ⟨("plain", none), "plain", "plain", defArgs (top 16), defBody (top 16), defScope (top 16), [], []⟩
def d_both_bits : He.DefD := ⟨("both_bits", none), "both_bits", "both_bits", defArgs (top 17), defBody (top 17), defScope (top 17), [], []⟩
def d_either_bit : He.DefD := ⟨("either_bit", none), "either_bit", "either_bit", defArgs (top 18), defBody (top 18), defScope (top 18), [], []⟩
def d_unlike_bits : He.DefD := ⟨("unlike_bits", none), "unlike_bits", "unlike_bits", defArgs (top 19), defBody (top 19), defScope (top 19), [], []⟩
def d_tried_bits : He.DefD := ⟨("tried_bits", none), "tried_bits", "tried_bits", defArgs (top 20), defBody (top 20), defScope (top 20), [], []⟩
def d_other_bits : He.DefD := ⟨("other_bits", none), "other_bits", "other_bits", defArgs (top 21), defBody (top 21), defScope (top 21), [], []⟩
def d_bit_told : He.DefD := ⟨("bit_told", none), "bit_told", "bit_told", defArgs (top 22), defBody (top 22), defScope (top 22), [], []⟩
def d_bit_asked : He.DefD := ⟨("bit_asked", none), "bit_asked", "bit_asked", defArgs (top 23), defBody (top 23), defScope (top 23), [], []⟩
def d_bit_set : He.DefD := ⟨("bit_set", none), "bit_set", "bit_set", defArgs (top 24), defBody (top 24), defScope (top 24), [], []⟩
def d_bit_cleared : He.DefD := ⟨("bit_cleared", none), "bit_cleared", "bit_cleared", defArgs (top 25), defBody (top 25), defScope (top 25), [], []⟩
def d_bit_turned : He.DefD := ⟨("bit_turned", none), "bit_turned", "bit_turned", defArgs (top 26), defBody (top 26), defScope (top 26), [], []⟩
def d_lowest_bit : He.DefD := ⟨("lowest_bit", none), "lowest_bit", "lowest_bit", defArgs (top 27), defBody (top 27), defScope (top 27), [], []⟩
def d_highest_bit : He.DefD := ⟨("highest_bit", none), "highest_bit", "highest_bit", defArgs (top 28), defBody (top 28), defScope (top 28), [], []⟩
def d_bytes_turned : He.DefD := ⟨("bytes_turned", none), "bytes_turned", "bytes_turned", defArgs (top 29), defBody (top 29), defScope (top 29), [], []⟩
def d_carry_cleared : He.DefD := ⟨("carry_cleared", none), "carry_cleared", "carry_cleared", defArgs (top 30), defBody (top 30), defScope (top 30), [], []⟩
def d_carry_set : He.DefD := ⟨("carry_set", none), "carry_set", "carry_set", defArgs (top 31), defBody (top 31), defScope (top 31), [], []⟩
def d_carry_turned : He.DefD := ⟨("carry_turned", none), "carry_turned", "carry_turned", defArgs (top 32), defBody (top 32), defScope (top 32), [], []⟩
def d_does_fit : He.DefD := ⟨("does_fit", none), "does_fit", "does_fit", defArgs (top 35), defBody (top 35), defScope (top 35), [], []⟩
def d_multiply : He.DefD := ⟨("multiply", none), "multiply", "multiply", defArgs (top 36), defBody (top 36), defScope (top 36), [], []⟩
def d_multiply_signed : He.DefD := ⟨("multiply_signed", none), "multiply_signed", "multiply_signed", defArgs (top 37), defBody (top 37), defScope (top 37), [], []⟩
def d_divide : He.DefD := ⟨("divide", none), "divide", "divide", defArgs (top 38), defBody (top 38), defScope (top 38), [], []⟩
def d_divide_signed : He.DefD := ⟨("divide_signed", none), "divide_signed", "divide_signed", defArgs (top 39), defBody (top 39), defScope (top 39), [], []⟩
def d_is_low_wrong : He.DefD := ⟨("is_low_wrong", none), "is_low_wrong", "is_low_wrong", defArgs (top 44), defBody (top 44), defScope (top 44), [], []⟩
def d_is_high_wrong : He.DefD := ⟨("is_high_wrong", none), "is_high_wrong", "is_high_wrong", defArgs (top 45), defBody (top 45), defScope (top 45), [], []⟩
def d_after_sum : He.DefD := ⟨("after_sum", none), "after_sum", "after_sum", defArgs (top 46), defBody (top 46), defScope (top 46), [], []⟩
def d_after_difference : He.DefD := ⟨("after_difference", none), "after_difference", "after_difference", defArgs (top 47), defBody (top 47), defScope (top 47), [], []⟩
def d_one_digit : He.DefD := ⟨("one_digit", none), "one_digit", "one_digit", defArgs (top 48), defBody (top 48), defScope (top 48), [], []⟩
def d_digit_after_sum : He.DefD := ⟨("digit_after_sum", none), "digit_after_sum", "digit_after_sum", defArgs (top 49), defBody (top 49), defScope (top 49), [], []⟩
def d_digit_after_difference : He.DefD := ⟨("digit_after_difference", none), "digit_after_difference", "digit_after_difference", defArgs (top 50), defBody (top 50), defScope (top 50), [], []⟩
def d_digits_parted : He.DefD := ⟨("digits_parted", none), "digits_parted", "digits_parted", defArgs (top 51), defBody (top 51), defScope (top 51), [], []⟩
def d_digits_joined : He.DefD := ⟨("digits_joined", none), "digits_joined", "digits_joined", defArgs (top 52), defBody (top 52), defScope (top 52), [], []⟩
def d_steps_by : He.DefD := ⟨("steps_by", none), "steps_by", "steps_by", defArgs (top 55), defBody (top 55), defScope (top 55), [], []⟩
def d_only_by_one : He.DefD := ⟨("only_by_one", none), "only_by_one", "only_by_one", defArgs (top 56), defBody (top 56), defScope (top 56), [], []⟩
def d_shift_left : He.DefD := ⟨("shift_left", none), "shift_left", "shift_left", defArgs (top 57), defBody (top 57), defScope (top 57), [], []⟩
def d_shift_right : He.DefD := ⟨("shift_right", none), "shift_right", "shift_right", defArgs (top 58), defBody (top 58), defScope (top 58), [], []⟩
def d_shift_signed : He.DefD := ⟨("shift_signed", none), "shift_signed", "shift_signed", defArgs (top 59), defBody (top 59), defScope (top 59), [], []⟩
def d_turned_left : He.DefD := ⟨("turned_left", none), "turned_left", "turned_left", defArgs (top 60), defBody (top 60), defScope (top 60), [], []⟩
def d_turn_left : He.DefD := ⟨("turn_left", none), "turn_left", "turn_left", defArgs (top 61), defBody (top 61), defScope (top 61), [], []⟩
def d_turn_right : He.DefD := ⟨("turn_right", none), "turn_right", "turn_right", defArgs (top 62), defBody (top 62), defScope (top 62), [], []⟩
def d_with_carry : He.DefD := ⟨("with_carry", none), "with_carry", "with_carry", defArgs (top 63), defBody (top 63), defScope (top 63), [], []⟩
def d_carry_left : He.DefD := ⟨("carry_left", none), "carry_left", "carry_left", defArgs (top 64), defBody (top 64), defScope (top 64), [], []⟩
def d_carry_right : He.DefD := ⟨("carry_right", none), "carry_right", "carry_right", defArgs (top 65), defBody (top 65), defScope (top 65), [], []⟩
def d_double_steps : He.DefD := ⟨("double_steps", none), "double_steps", "double_steps", defArgs (top 66), defBody (top 66), defScope (top 66), [], []⟩
def d_double_left : He.DefD := ⟨("double_left", none), "double_left", "double_left", defArgs (top 67), defBody (top 67), defScope (top 67), [], []⟩
def d_double_right : He.DefD := ⟨("double_right", none), "double_right", "double_right", defArgs (top 68), defBody (top 68), defScope (top 68), [], []⟩
def d_sum_of : He.DefD := ⟨("sum_of", none), "sum_of", "sum_of", defArgs (top 70), defBody (top 70), defScope (top 70), [], []⟩
def d_less_of : He.DefD := ⟨("less_of", none), "less_of", "less_of", defArgs (top 71), defBody (top 71), defScope (top 71), [], []⟩
def d_but_carry : He.DefD := ⟨("but_carry", none), "but_carry", "but_carry", defArgs (top 72), defBody (top 72), defScope (top 72), [], []⟩
def d_add : He.DefD := ⟨("add", none), "add", "add", defArgs (top 73), defBody (top 73), defScope (top 73), [], []⟩
def d_add_carry : He.DefD := ⟨("add_carry", none), "add_carry", "add_carry", defArgs (top 74), defBody (top 74), defScope (top 74), [], []⟩
def d_subtract : He.DefD := ⟨("subtract", none), "subtract", "subtract", defArgs (top 75), defBody (top 75), defScope (top 75), [], []⟩
def d_subtract_borrow : He.DefD := ⟨("subtract_borrow", none), "subtract_borrow", "subtract_borrow", defArgs (top 76), defBody (top 76), defScope (top 76), [], []⟩
def d_compare : He.DefD := ⟨("compare", none), "compare", "compare", defArgs (top 77), defBody (top 77), defScope (top 77), [], []⟩
def d_contrary : He.DefD := ⟨("contrary", none), "contrary", "contrary", defArgs (top 78), defBody (top 78), defScope (top 78), [], []⟩
def d_one_on : He.DefD := ⟨("one_on", none), "one_on", "one_on", defArgs (top 79), defBody (top 79), defScope (top 79), [], []⟩
def d_one_back : He.DefD := ⟨("one_back", none), "one_back", "one_back", defArgs (top 80), defBody (top 80), defScope (top 80), [], []⟩
def d_exchange_add : He.DefD := ⟨("exchange_add", none), "exchange_add", "exchange_add", defArgs (top 81), defBody (top 81), defScope (top 81), [], []⟩
def d_compare_exchange : He.DefD := ⟨("compare_exchange", none), "compare_exchange", "compare_exchange", defArgs (top 82), defBody (top 82), defScope (top 82), [], []⟩
def d_widths_of : He.DefD := ⟨("widths_of", none), "widths_of", "widths_of", defArgs (top 90), defBody (top 90), defScope (top 90), [], []⟩
def d_done : He.DefD := ⟨("done", none), "done", "done", defArgs (top 91), defBody (top 91), defScope (top 91), [], []⟩
def d_do : He.DefD := ⟨("do", none), "do", "do", defArgs (top 93), defBody (top 93), defScope (top 93), [], []⟩
def fn_0 : List He.DefD := [d_bit_of, d_with_bit, d_with_flags, d_Refused_init, d_Operands_init, d_Operands_carry, d_Operands_has_half, d_Operands_signed, d_Operands_top, d_Operands_shows, d_is_even, d_shown, d_plain, d_both_bits, d_either_bit, d_unlike_bits, d_tried_bits, d_other_bits, d_bit_told, d_bit_asked, d_bit_set, d_bit_cleared, d_bit_turned, d_lowest_bit, d_highest_bit, d_bytes_turned, d_carry_cleared, d_carry_set, d_carry_turned, d_does_fit, d_multiply, d_multiply_signed, d_divide, d_divide_signed, d_is_low_wrong]
def fn_1 : List He.DefD := [d_is_high_wrong, d_after_sum, d_after_difference, d_one_digit, d_digit_after_sum, d_digit_after_difference, d_digits_parted, d_digits_joined, d_steps_by, d_only_by_one, d_shift_left, d_shift_right, d_shift_signed, d_turned_left, d_turn_left, d_turn_right, d_with_carry, d_carry_left, d_carry_right, d_double_steps, d_double_left, d_double_right, d_sum_of, d_less_of, d_but_carry, d_add, d_add_carry, d_subtract, d_subtract_borrow, d_compare, d_contrary, d_one_on, d_one_back, d_exchange_add, d_compare_exchange]
def fn_2 : List He.DefD := [d_widths_of, d_done, d_do]
def fn : List He.DefD := fn_0 ++ (fn_1 ++ (fn_2))
def fa_0 : List He.Fa := [.int "CARRY" 0, .int "PARITY" 2, .int "HALF" 4, .int "ZERO" 6, .int "SIGN" 7, .int "OVER" 11, .int "NO_QUOTIENT" (-3), .int "BYTE" 256, .int "MOST_TWO" 153, .int "BOTH_DIGITS" 262, .int "TOO_FAR" (-2), .int "NO_OPERATION" (-1), .int "TURNING_BYTES" 32, .glo "WIDE", .glo "TWO_DIGITS", .glo "ONE_DIGIT", .glo "OPERATIONS", .glo "Refused", .glo "Operands", .glo "bit_of", .glo "with_bit", .glo "with_flags", .glo "is_even", .glo "shown", .glo "plain", .glo "both_bits", .glo "either_bit", .glo "unlike_bits", .glo "tried_bits", .glo "other_bits", .glo "bit_told", .glo "bit_asked", .glo "bit_set", .glo "bit_cleared", .glo "bit_turned"]
def fa_1 : List He.Fa := [.glo "lowest_bit", .glo "highest_bit", .glo "bytes_turned", .glo "carry_cleared", .glo "carry_set", .glo "carry_turned", .glo "does_fit", .glo "multiply", .glo "multiply_signed", .glo "divide", .glo "divide_signed", .glo "is_low_wrong", .glo "is_high_wrong", .glo "after_sum", .glo "after_difference", .glo "one_digit", .glo "digit_after_sum", .glo "digit_after_difference", .glo "digits_parted", .glo "digits_joined", .glo "steps_by", .glo "only_by_one", .glo "shift_left", .glo "shift_right", .glo "shift_signed", .glo "turned_left", .glo "turn_left", .glo "turn_right", .glo "with_carry", .glo "carry_left", .glo "carry_right", .glo "double_steps", .glo "double_left", .glo "double_right", .glo "sum_of"]
def fa_2 : List He.Fa := [.glo "less_of", .glo "but_carry", .glo "add", .glo "add_carry", .glo "subtract", .glo "subtract_borrow", .glo "compare", .glo "contrary", .glo "one_on", .glo "one_back", .glo "exchange_add", .glo "compare_exchange", .glo "widths_of", .glo "done", .glo "do", .free "ValueError", .free "abs", .free "int", .free "len", .free "range", .free "sum", .cls "Operands", .mkr "Operands", .noat "Operands" "width", .noat "Operands" "bound", .noat "Operands" "a", .noat "Operands" "b", .noat "Operands" "c", .noat "Operands" "flags", .meth "Operands" "carry", .meth "Operands" "has_half", .meth "Operands" "signed", .meth "Operands" "top", .meth "Operands" "shows"]
def fa : List He.Fa := fa_0 ++ (fa_1 ++ (fa_2))
def lst_OPERATIONS_0 : List He.Dv := [.glo "add", .glo "add_carry", .glo "subtract", .glo "subtract_borrow", .glo "compare", .glo "contrary", .glo "one_on", .glo "one_back", .glo "both_bits", .glo "either_bit", .glo "unlike_bits", .glo "tried_bits", .glo "other_bits", .glo "shift_left", .glo "shift_right", .glo "shift_signed", .glo "turn_left", .glo "turn_right", .glo "carry_left", .glo "carry_right", .glo "double_left", .glo "double_right", .glo "multiply", .glo "multiply_signed", .glo "divide", .glo "divide_signed", .glo "bit_asked", .glo "bit_set", .glo "bit_cleared", .glo "bit_turned", .glo "lowest_bit", .glo "highest_bit", .glo "bytes_turned", .glo "exchange_add", .glo "compare_exchange"]
def lst_OPERATIONS_1 : List He.Dv := [.glo "carry_cleared", .glo "carry_set", .glo "carry_turned", .glo "after_sum", .glo "after_difference", .glo "digit_after_sum", .glo "digit_after_difference", .glo "digits_parted", .glo "digits_joined"]
def lst_OPERATIONS : List He.Dv := lst_OPERATIONS_0 ++ (lst_OPERATIONS_1)
def exB (K : PySem.W.Frag) : Bool := He.tupB K "WIDE" [.int 20, .int 21, .int 26, .int 27, .int 28, .int 29, .int 30, .int 31] && (He.tupB K "TWO_DIGITS" [.int 38, .int 39] && (He.tupB K "ONE_DIGIT" [.int 40, .int 41, .int 42, .int 43] && (He.lstB K "OPERATIONS" lst_OPERATIONS && (oexB K "Refused" "number"))))
structure Top (K : PySem.W.Frag) (mg : Str → Option Value) : Prop where
  c : SaysX fa fn exB K
  g : ∃ h : Heap, K.In h ∧ h.Ns mainGlobals mg
section
variable {K : PySem.W.Frag} {mg : Str → Option Value}
theorem Top.glo (T : Top K mg) (i : Nat) {n : Str} (h : fa[i]? = some (.glo n) := by rfl) : mg n = some (.ref (He.ga K n)) := by
  obtain ⟨hp, X, G⟩ := T.g
  exact He.glo_ok X G (T.c.d.fact i h)
theorem Top.int (T : Top K mg) (i : Nat) {n : Str} {z : Int} (h : fa[i]? = some (.int n z) := by rfl) : ∃ t, mg n = some (.int z t) := by
  obtain ⟨hp, X, G⟩ := T.g
  exact He.int_ok X G (T.c.d.fact i h)
theorem Top.free (T : Top K mg) (i : Nat) {n : Str} (h : fa[i]? = some (.free n) := by rfl) : mg n = none := by
  obtain ⟨hp, X, G⟩ := T.g
  exact He.free_ok X G (T.c.d.fact i h)
theorem Top.fn_ (T : Top K mg) (i : Nat) {d : He.DefD} (h : fn[i]? = some d := by rfl) : ∃ fd, FunD K d.name d.qual d.params d.body d.scope (d.dvs K) (d.kws K) (He.fAd K d.at_) fd := T.c.d.def_ i h
theorem Top.f_bit_of (T : Top K mg) : ∃ fd, FunD K d_bit_of.name d_bit_of.qual d_bit_of.params d_bit_of.body d_bit_of.scope (d_bit_of.dvs K) (d_bit_of.kws K) (He.fAd K d_bit_of.at_) fd := T.fn_ 0
theorem Top.f_with_bit (T : Top K mg) : ∃ fd, FunD K d_with_bit.name d_with_bit.qual d_with_bit.params d_with_bit.body d_with_bit.scope (d_with_bit.dvs K) (d_with_bit.kws K) (He.fAd K d_with_bit.at_) fd := T.fn_ 1
theorem Top.f_with_flags (T : Top K mg) : ∃ fd, FunD K d_with_flags.name d_with_flags.qual d_with_flags.params d_with_flags.body d_with_flags.scope (d_with_flags.dvs K) (d_with_flags.kws K) (He.fAd K d_with_flags.at_) fd := T.fn_ 2
theorem Top.f_Refused_init (T : Top K mg) : ∃ fd, FunD K d_Refused_init.name d_Refused_init.qual d_Refused_init.params d_Refused_init.body d_Refused_init.scope (d_Refused_init.dvs K) (d_Refused_init.kws K) (He.fAd K d_Refused_init.at_) fd := T.fn_ 3
theorem Top.f_Operands_init (T : Top K mg) : ∃ fd, FunD K d_Operands_init.name d_Operands_init.qual d_Operands_init.params d_Operands_init.body d_Operands_init.scope (d_Operands_init.dvs K) (d_Operands_init.kws K) (He.fAd K d_Operands_init.at_) fd := T.fn_ 4
theorem Top.f_Operands_carry (T : Top K mg) : ∃ fd, FunD K d_Operands_carry.name d_Operands_carry.qual d_Operands_carry.params d_Operands_carry.body d_Operands_carry.scope (d_Operands_carry.dvs K) (d_Operands_carry.kws K) (He.fAd K d_Operands_carry.at_) fd := T.fn_ 5
theorem Top.f_Operands_has_half (T : Top K mg) : ∃ fd, FunD K d_Operands_has_half.name d_Operands_has_half.qual d_Operands_has_half.params d_Operands_has_half.body d_Operands_has_half.scope (d_Operands_has_half.dvs K) (d_Operands_has_half.kws K) (He.fAd K d_Operands_has_half.at_) fd := T.fn_ 6
theorem Top.f_Operands_signed (T : Top K mg) : ∃ fd, FunD K d_Operands_signed.name d_Operands_signed.qual d_Operands_signed.params d_Operands_signed.body d_Operands_signed.scope (d_Operands_signed.dvs K) (d_Operands_signed.kws K) (He.fAd K d_Operands_signed.at_) fd := T.fn_ 7
theorem Top.f_Operands_top (T : Top K mg) : ∃ fd, FunD K d_Operands_top.name d_Operands_top.qual d_Operands_top.params d_Operands_top.body d_Operands_top.scope (d_Operands_top.dvs K) (d_Operands_top.kws K) (He.fAd K d_Operands_top.at_) fd := T.fn_ 8
theorem Top.f_Operands_shows (T : Top K mg) : ∃ fd, FunD K d_Operands_shows.name d_Operands_shows.qual d_Operands_shows.params d_Operands_shows.body d_Operands_shows.scope (d_Operands_shows.dvs K) (d_Operands_shows.kws K) (He.fAd K d_Operands_shows.at_) fd := T.fn_ 9
theorem Top.f_is_even (T : Top K mg) : ∃ fd, FunD K d_is_even.name d_is_even.qual d_is_even.params d_is_even.body d_is_even.scope (d_is_even.dvs K) (d_is_even.kws K) (He.fAd K d_is_even.at_) fd := T.fn_ 10
theorem Top.f_shown (T : Top K mg) : ∃ fd, FunD K d_shown.name d_shown.qual d_shown.params d_shown.body d_shown.scope (d_shown.dvs K) (d_shown.kws K) (He.fAd K d_shown.at_) fd := T.fn_ 11
theorem Top.f_plain (T : Top K mg) : ∃ fd, FunD K d_plain.name d_plain.qual d_plain.params d_plain.body d_plain.scope (d_plain.dvs K) (d_plain.kws K) (He.fAd K d_plain.at_) fd := T.fn_ 12
theorem Top.f_both_bits (T : Top K mg) : ∃ fd, FunD K d_both_bits.name d_both_bits.qual d_both_bits.params d_both_bits.body d_both_bits.scope (d_both_bits.dvs K) (d_both_bits.kws K) (He.fAd K d_both_bits.at_) fd := T.fn_ 13
theorem Top.f_either_bit (T : Top K mg) : ∃ fd, FunD K d_either_bit.name d_either_bit.qual d_either_bit.params d_either_bit.body d_either_bit.scope (d_either_bit.dvs K) (d_either_bit.kws K) (He.fAd K d_either_bit.at_) fd := T.fn_ 14
theorem Top.f_unlike_bits (T : Top K mg) : ∃ fd, FunD K d_unlike_bits.name d_unlike_bits.qual d_unlike_bits.params d_unlike_bits.body d_unlike_bits.scope (d_unlike_bits.dvs K) (d_unlike_bits.kws K) (He.fAd K d_unlike_bits.at_) fd := T.fn_ 15
theorem Top.f_tried_bits (T : Top K mg) : ∃ fd, FunD K d_tried_bits.name d_tried_bits.qual d_tried_bits.params d_tried_bits.body d_tried_bits.scope (d_tried_bits.dvs K) (d_tried_bits.kws K) (He.fAd K d_tried_bits.at_) fd := T.fn_ 16
theorem Top.f_other_bits (T : Top K mg) : ∃ fd, FunD K d_other_bits.name d_other_bits.qual d_other_bits.params d_other_bits.body d_other_bits.scope (d_other_bits.dvs K) (d_other_bits.kws K) (He.fAd K d_other_bits.at_) fd := T.fn_ 17
theorem Top.f_bit_told (T : Top K mg) : ∃ fd, FunD K d_bit_told.name d_bit_told.qual d_bit_told.params d_bit_told.body d_bit_told.scope (d_bit_told.dvs K) (d_bit_told.kws K) (He.fAd K d_bit_told.at_) fd := T.fn_ 18
theorem Top.f_bit_asked (T : Top K mg) : ∃ fd, FunD K d_bit_asked.name d_bit_asked.qual d_bit_asked.params d_bit_asked.body d_bit_asked.scope (d_bit_asked.dvs K) (d_bit_asked.kws K) (He.fAd K d_bit_asked.at_) fd := T.fn_ 19
theorem Top.f_bit_set (T : Top K mg) : ∃ fd, FunD K d_bit_set.name d_bit_set.qual d_bit_set.params d_bit_set.body d_bit_set.scope (d_bit_set.dvs K) (d_bit_set.kws K) (He.fAd K d_bit_set.at_) fd := T.fn_ 20
theorem Top.f_bit_cleared (T : Top K mg) : ∃ fd, FunD K d_bit_cleared.name d_bit_cleared.qual d_bit_cleared.params d_bit_cleared.body d_bit_cleared.scope (d_bit_cleared.dvs K) (d_bit_cleared.kws K) (He.fAd K d_bit_cleared.at_) fd := T.fn_ 21
theorem Top.f_bit_turned (T : Top K mg) : ∃ fd, FunD K d_bit_turned.name d_bit_turned.qual d_bit_turned.params d_bit_turned.body d_bit_turned.scope (d_bit_turned.dvs K) (d_bit_turned.kws K) (He.fAd K d_bit_turned.at_) fd := T.fn_ 22
theorem Top.f_lowest_bit (T : Top K mg) : ∃ fd, FunD K d_lowest_bit.name d_lowest_bit.qual d_lowest_bit.params d_lowest_bit.body d_lowest_bit.scope (d_lowest_bit.dvs K) (d_lowest_bit.kws K) (He.fAd K d_lowest_bit.at_) fd := T.fn_ 23
theorem Top.f_highest_bit (T : Top K mg) : ∃ fd, FunD K d_highest_bit.name d_highest_bit.qual d_highest_bit.params d_highest_bit.body d_highest_bit.scope (d_highest_bit.dvs K) (d_highest_bit.kws K) (He.fAd K d_highest_bit.at_) fd := T.fn_ 24
theorem Top.f_bytes_turned (T : Top K mg) : ∃ fd, FunD K d_bytes_turned.name d_bytes_turned.qual d_bytes_turned.params d_bytes_turned.body d_bytes_turned.scope (d_bytes_turned.dvs K) (d_bytes_turned.kws K) (He.fAd K d_bytes_turned.at_) fd := T.fn_ 25
theorem Top.f_carry_cleared (T : Top K mg) : ∃ fd, FunD K d_carry_cleared.name d_carry_cleared.qual d_carry_cleared.params d_carry_cleared.body d_carry_cleared.scope (d_carry_cleared.dvs K) (d_carry_cleared.kws K) (He.fAd K d_carry_cleared.at_) fd := T.fn_ 26
theorem Top.f_carry_set (T : Top K mg) : ∃ fd, FunD K d_carry_set.name d_carry_set.qual d_carry_set.params d_carry_set.body d_carry_set.scope (d_carry_set.dvs K) (d_carry_set.kws K) (He.fAd K d_carry_set.at_) fd := T.fn_ 27
theorem Top.f_carry_turned (T : Top K mg) : ∃ fd, FunD K d_carry_turned.name d_carry_turned.qual d_carry_turned.params d_carry_turned.body d_carry_turned.scope (d_carry_turned.dvs K) (d_carry_turned.kws K) (He.fAd K d_carry_turned.at_) fd := T.fn_ 28
theorem Top.f_does_fit (T : Top K mg) : ∃ fd, FunD K d_does_fit.name d_does_fit.qual d_does_fit.params d_does_fit.body d_does_fit.scope (d_does_fit.dvs K) (d_does_fit.kws K) (He.fAd K d_does_fit.at_) fd := T.fn_ 29
theorem Top.f_multiply (T : Top K mg) : ∃ fd, FunD K d_multiply.name d_multiply.qual d_multiply.params d_multiply.body d_multiply.scope (d_multiply.dvs K) (d_multiply.kws K) (He.fAd K d_multiply.at_) fd := T.fn_ 30
theorem Top.f_multiply_signed (T : Top K mg) : ∃ fd, FunD K d_multiply_signed.name d_multiply_signed.qual d_multiply_signed.params d_multiply_signed.body d_multiply_signed.scope (d_multiply_signed.dvs K) (d_multiply_signed.kws K) (He.fAd K d_multiply_signed.at_) fd := T.fn_ 31
theorem Top.f_divide (T : Top K mg) : ∃ fd, FunD K d_divide.name d_divide.qual d_divide.params d_divide.body d_divide.scope (d_divide.dvs K) (d_divide.kws K) (He.fAd K d_divide.at_) fd := T.fn_ 32
theorem Top.f_divide_signed (T : Top K mg) : ∃ fd, FunD K d_divide_signed.name d_divide_signed.qual d_divide_signed.params d_divide_signed.body d_divide_signed.scope (d_divide_signed.dvs K) (d_divide_signed.kws K) (He.fAd K d_divide_signed.at_) fd := T.fn_ 33
theorem Top.f_is_low_wrong (T : Top K mg) : ∃ fd, FunD K d_is_low_wrong.name d_is_low_wrong.qual d_is_low_wrong.params d_is_low_wrong.body d_is_low_wrong.scope (d_is_low_wrong.dvs K) (d_is_low_wrong.kws K) (He.fAd K d_is_low_wrong.at_) fd := T.fn_ 34
theorem Top.f_is_high_wrong (T : Top K mg) : ∃ fd, FunD K d_is_high_wrong.name d_is_high_wrong.qual d_is_high_wrong.params d_is_high_wrong.body d_is_high_wrong.scope (d_is_high_wrong.dvs K) (d_is_high_wrong.kws K) (He.fAd K d_is_high_wrong.at_) fd := T.fn_ 35
theorem Top.f_after_sum (T : Top K mg) : ∃ fd, FunD K d_after_sum.name d_after_sum.qual d_after_sum.params d_after_sum.body d_after_sum.scope (d_after_sum.dvs K) (d_after_sum.kws K) (He.fAd K d_after_sum.at_) fd := T.fn_ 36
theorem Top.f_after_difference (T : Top K mg) : ∃ fd, FunD K d_after_difference.name d_after_difference.qual d_after_difference.params d_after_difference.body d_after_difference.scope (d_after_difference.dvs K) (d_after_difference.kws K) (He.fAd K d_after_difference.at_) fd := T.fn_ 37
theorem Top.f_one_digit (T : Top K mg) : ∃ fd, FunD K d_one_digit.name d_one_digit.qual d_one_digit.params d_one_digit.body d_one_digit.scope (d_one_digit.dvs K) (d_one_digit.kws K) (He.fAd K d_one_digit.at_) fd := T.fn_ 38
theorem Top.f_digit_after_sum (T : Top K mg) : ∃ fd, FunD K d_digit_after_sum.name d_digit_after_sum.qual d_digit_after_sum.params d_digit_after_sum.body d_digit_after_sum.scope (d_digit_after_sum.dvs K) (d_digit_after_sum.kws K) (He.fAd K d_digit_after_sum.at_) fd := T.fn_ 39
theorem Top.f_digit_after_difference (T : Top K mg) : ∃ fd, FunD K d_digit_after_difference.name d_digit_after_difference.qual d_digit_after_difference.params d_digit_after_difference.body d_digit_after_difference.scope (d_digit_after_difference.dvs K) (d_digit_after_difference.kws K) (He.fAd K d_digit_after_difference.at_) fd := T.fn_ 40
theorem Top.f_digits_parted (T : Top K mg) : ∃ fd, FunD K d_digits_parted.name d_digits_parted.qual d_digits_parted.params d_digits_parted.body d_digits_parted.scope (d_digits_parted.dvs K) (d_digits_parted.kws K) (He.fAd K d_digits_parted.at_) fd := T.fn_ 41
theorem Top.f_digits_joined (T : Top K mg) : ∃ fd, FunD K d_digits_joined.name d_digits_joined.qual d_digits_joined.params d_digits_joined.body d_digits_joined.scope (d_digits_joined.dvs K) (d_digits_joined.kws K) (He.fAd K d_digits_joined.at_) fd := T.fn_ 42
theorem Top.f_steps_by (T : Top K mg) : ∃ fd, FunD K d_steps_by.name d_steps_by.qual d_steps_by.params d_steps_by.body d_steps_by.scope (d_steps_by.dvs K) (d_steps_by.kws K) (He.fAd K d_steps_by.at_) fd := T.fn_ 43
theorem Top.f_only_by_one (T : Top K mg) : ∃ fd, FunD K d_only_by_one.name d_only_by_one.qual d_only_by_one.params d_only_by_one.body d_only_by_one.scope (d_only_by_one.dvs K) (d_only_by_one.kws K) (He.fAd K d_only_by_one.at_) fd := T.fn_ 44
theorem Top.f_shift_left (T : Top K mg) : ∃ fd, FunD K d_shift_left.name d_shift_left.qual d_shift_left.params d_shift_left.body d_shift_left.scope (d_shift_left.dvs K) (d_shift_left.kws K) (He.fAd K d_shift_left.at_) fd := T.fn_ 45
theorem Top.f_shift_right (T : Top K mg) : ∃ fd, FunD K d_shift_right.name d_shift_right.qual d_shift_right.params d_shift_right.body d_shift_right.scope (d_shift_right.dvs K) (d_shift_right.kws K) (He.fAd K d_shift_right.at_) fd := T.fn_ 46
theorem Top.f_shift_signed (T : Top K mg) : ∃ fd, FunD K d_shift_signed.name d_shift_signed.qual d_shift_signed.params d_shift_signed.body d_shift_signed.scope (d_shift_signed.dvs K) (d_shift_signed.kws K) (He.fAd K d_shift_signed.at_) fd := T.fn_ 47
theorem Top.f_turned_left (T : Top K mg) : ∃ fd, FunD K d_turned_left.name d_turned_left.qual d_turned_left.params d_turned_left.body d_turned_left.scope (d_turned_left.dvs K) (d_turned_left.kws K) (He.fAd K d_turned_left.at_) fd := T.fn_ 48
theorem Top.f_turn_left (T : Top K mg) : ∃ fd, FunD K d_turn_left.name d_turn_left.qual d_turn_left.params d_turn_left.body d_turn_left.scope (d_turn_left.dvs K) (d_turn_left.kws K) (He.fAd K d_turn_left.at_) fd := T.fn_ 49
theorem Top.f_turn_right (T : Top K mg) : ∃ fd, FunD K d_turn_right.name d_turn_right.qual d_turn_right.params d_turn_right.body d_turn_right.scope (d_turn_right.dvs K) (d_turn_right.kws K) (He.fAd K d_turn_right.at_) fd := T.fn_ 50
theorem Top.f_with_carry (T : Top K mg) : ∃ fd, FunD K d_with_carry.name d_with_carry.qual d_with_carry.params d_with_carry.body d_with_carry.scope (d_with_carry.dvs K) (d_with_carry.kws K) (He.fAd K d_with_carry.at_) fd := T.fn_ 51
theorem Top.f_carry_left (T : Top K mg) : ∃ fd, FunD K d_carry_left.name d_carry_left.qual d_carry_left.params d_carry_left.body d_carry_left.scope (d_carry_left.dvs K) (d_carry_left.kws K) (He.fAd K d_carry_left.at_) fd := T.fn_ 52
theorem Top.f_carry_right (T : Top K mg) : ∃ fd, FunD K d_carry_right.name d_carry_right.qual d_carry_right.params d_carry_right.body d_carry_right.scope (d_carry_right.dvs K) (d_carry_right.kws K) (He.fAd K d_carry_right.at_) fd := T.fn_ 53
theorem Top.f_double_steps (T : Top K mg) : ∃ fd, FunD K d_double_steps.name d_double_steps.qual d_double_steps.params d_double_steps.body d_double_steps.scope (d_double_steps.dvs K) (d_double_steps.kws K) (He.fAd K d_double_steps.at_) fd := T.fn_ 54
theorem Top.f_double_left (T : Top K mg) : ∃ fd, FunD K d_double_left.name d_double_left.qual d_double_left.params d_double_left.body d_double_left.scope (d_double_left.dvs K) (d_double_left.kws K) (He.fAd K d_double_left.at_) fd := T.fn_ 55
theorem Top.f_double_right (T : Top K mg) : ∃ fd, FunD K d_double_right.name d_double_right.qual d_double_right.params d_double_right.body d_double_right.scope (d_double_right.dvs K) (d_double_right.kws K) (He.fAd K d_double_right.at_) fd := T.fn_ 56
theorem Top.f_sum_of (T : Top K mg) : ∃ fd, FunD K d_sum_of.name d_sum_of.qual d_sum_of.params d_sum_of.body d_sum_of.scope (d_sum_of.dvs K) (d_sum_of.kws K) (He.fAd K d_sum_of.at_) fd := T.fn_ 57
theorem Top.f_less_of (T : Top K mg) : ∃ fd, FunD K d_less_of.name d_less_of.qual d_less_of.params d_less_of.body d_less_of.scope (d_less_of.dvs K) (d_less_of.kws K) (He.fAd K d_less_of.at_) fd := T.fn_ 58
theorem Top.f_but_carry (T : Top K mg) : ∃ fd, FunD K d_but_carry.name d_but_carry.qual d_but_carry.params d_but_carry.body d_but_carry.scope (d_but_carry.dvs K) (d_but_carry.kws K) (He.fAd K d_but_carry.at_) fd := T.fn_ 59
theorem Top.f_add (T : Top K mg) : ∃ fd, FunD K d_add.name d_add.qual d_add.params d_add.body d_add.scope (d_add.dvs K) (d_add.kws K) (He.fAd K d_add.at_) fd := T.fn_ 60
theorem Top.f_add_carry (T : Top K mg) : ∃ fd, FunD K d_add_carry.name d_add_carry.qual d_add_carry.params d_add_carry.body d_add_carry.scope (d_add_carry.dvs K) (d_add_carry.kws K) (He.fAd K d_add_carry.at_) fd := T.fn_ 61
theorem Top.f_subtract (T : Top K mg) : ∃ fd, FunD K d_subtract.name d_subtract.qual d_subtract.params d_subtract.body d_subtract.scope (d_subtract.dvs K) (d_subtract.kws K) (He.fAd K d_subtract.at_) fd := T.fn_ 62
theorem Top.f_subtract_borrow (T : Top K mg) : ∃ fd, FunD K d_subtract_borrow.name d_subtract_borrow.qual d_subtract_borrow.params d_subtract_borrow.body d_subtract_borrow.scope (d_subtract_borrow.dvs K) (d_subtract_borrow.kws K) (He.fAd K d_subtract_borrow.at_) fd := T.fn_ 63
theorem Top.f_compare (T : Top K mg) : ∃ fd, FunD K d_compare.name d_compare.qual d_compare.params d_compare.body d_compare.scope (d_compare.dvs K) (d_compare.kws K) (He.fAd K d_compare.at_) fd := T.fn_ 64
theorem Top.f_contrary (T : Top K mg) : ∃ fd, FunD K d_contrary.name d_contrary.qual d_contrary.params d_contrary.body d_contrary.scope (d_contrary.dvs K) (d_contrary.kws K) (He.fAd K d_contrary.at_) fd := T.fn_ 65
theorem Top.f_one_on (T : Top K mg) : ∃ fd, FunD K d_one_on.name d_one_on.qual d_one_on.params d_one_on.body d_one_on.scope (d_one_on.dvs K) (d_one_on.kws K) (He.fAd K d_one_on.at_) fd := T.fn_ 66
theorem Top.f_one_back (T : Top K mg) : ∃ fd, FunD K d_one_back.name d_one_back.qual d_one_back.params d_one_back.body d_one_back.scope (d_one_back.dvs K) (d_one_back.kws K) (He.fAd K d_one_back.at_) fd := T.fn_ 67
theorem Top.f_exchange_add (T : Top K mg) : ∃ fd, FunD K d_exchange_add.name d_exchange_add.qual d_exchange_add.params d_exchange_add.body d_exchange_add.scope (d_exchange_add.dvs K) (d_exchange_add.kws K) (He.fAd K d_exchange_add.at_) fd := T.fn_ 68
theorem Top.f_compare_exchange (T : Top K mg) : ∃ fd, FunD K d_compare_exchange.name d_compare_exchange.qual d_compare_exchange.params d_compare_exchange.body d_compare_exchange.scope (d_compare_exchange.dvs K) (d_compare_exchange.kws K) (He.fAd K d_compare_exchange.at_) fd := T.fn_ 69
theorem Top.f_widths_of (T : Top K mg) : ∃ fd, FunD K d_widths_of.name d_widths_of.qual d_widths_of.params d_widths_of.body d_widths_of.scope (d_widths_of.dvs K) (d_widths_of.kws K) (He.fAd K d_widths_of.at_) fd := T.fn_ 70
theorem Top.f_done (T : Top K mg) : ∃ fd, FunD K d_done.name d_done.qual d_done.params d_done.body d_done.scope (d_done.dvs K) (d_done.kws K) (He.fAd K d_done.at_) fd := T.fn_ 71
theorem Top.f_do (T : Top K mg) : ∃ fd, FunD K d_do.name d_do.qual d_do.params d_do.body d_do.scope (d_do.dvs K) (d_do.kws K) (He.fAd K d_do.at_) fd := T.fn_ 72
theorem Top.g_CARRY (T : Top K mg) : ∃ t, mg "CARRY" = some (.int 0 t) := T.int 0
theorem Top.g_PARITY (T : Top K mg) : ∃ t, mg "PARITY" = some (.int 2 t) := T.int 1
theorem Top.g_HALF (T : Top K mg) : ∃ t, mg "HALF" = some (.int 4 t) := T.int 2
theorem Top.g_ZERO (T : Top K mg) : ∃ t, mg "ZERO" = some (.int 6 t) := T.int 3
theorem Top.g_SIGN (T : Top K mg) : ∃ t, mg "SIGN" = some (.int 7 t) := T.int 4
theorem Top.g_OVER (T : Top K mg) : ∃ t, mg "OVER" = some (.int 11 t) := T.int 5
theorem Top.g_NO_QUOTIENT (T : Top K mg) : ∃ t, mg "NO_QUOTIENT" = some (.int (-3) t) := T.int 6
theorem Top.g_BYTE (T : Top K mg) : ∃ t, mg "BYTE" = some (.int 256 t) := T.int 7
theorem Top.g_MOST_TWO (T : Top K mg) : ∃ t, mg "MOST_TWO" = some (.int 153 t) := T.int 8
theorem Top.g_BOTH_DIGITS (T : Top K mg) : ∃ t, mg "BOTH_DIGITS" = some (.int 262 t) := T.int 9
theorem Top.g_TOO_FAR (T : Top K mg) : ∃ t, mg "TOO_FAR" = some (.int (-2) t) := T.int 10
theorem Top.g_NO_OPERATION (T : Top K mg) : ∃ t, mg "NO_OPERATION" = some (.int (-1) t) := T.int 11
theorem Top.g_TURNING_BYTES (T : Top K mg) : ∃ t, mg "TURNING_BYTES" = some (.int 32 t) := T.int 12
theorem Top.g_WIDE (T : Top K mg) : mg "WIDE" = some (.ref (He.ga K "WIDE")) := T.glo 13
theorem Top.g_TWO_DIGITS (T : Top K mg) : mg "TWO_DIGITS" = some (.ref (He.ga K "TWO_DIGITS")) := T.glo 14
theorem Top.g_ONE_DIGIT (T : Top K mg) : mg "ONE_DIGIT" = some (.ref (He.ga K "ONE_DIGIT")) := T.glo 15
theorem Top.g_OPERATIONS (T : Top K mg) : mg "OPERATIONS" = some (.ref (He.ga K "OPERATIONS")) := T.glo 16
theorem Top.g_Refused (T : Top K mg) : mg "Refused" = some (.ref (He.ga K "Refused")) := T.glo 17
theorem Top.g_Operands (T : Top K mg) : mg "Operands" = some (.ref (He.ga K "Operands")) := T.glo 18
theorem Top.g_bit_of (T : Top K mg) : mg "bit_of" = some (.ref (He.ga K "bit_of")) := T.glo 19
theorem Top.g_with_bit (T : Top K mg) : mg "with_bit" = some (.ref (He.ga K "with_bit")) := T.glo 20
theorem Top.g_with_flags (T : Top K mg) : mg "with_flags" = some (.ref (He.ga K "with_flags")) := T.glo 21
theorem Top.g_is_even (T : Top K mg) : mg "is_even" = some (.ref (He.ga K "is_even")) := T.glo 22
theorem Top.g_shown (T : Top K mg) : mg "shown" = some (.ref (He.ga K "shown")) := T.glo 23
theorem Top.g_plain (T : Top K mg) : mg "plain" = some (.ref (He.ga K "plain")) := T.glo 24
theorem Top.g_both_bits (T : Top K mg) : mg "both_bits" = some (.ref (He.ga K "both_bits")) := T.glo 25
theorem Top.g_either_bit (T : Top K mg) : mg "either_bit" = some (.ref (He.ga K "either_bit")) := T.glo 26
theorem Top.g_unlike_bits (T : Top K mg) : mg "unlike_bits" = some (.ref (He.ga K "unlike_bits")) := T.glo 27
theorem Top.g_tried_bits (T : Top K mg) : mg "tried_bits" = some (.ref (He.ga K "tried_bits")) := T.glo 28
theorem Top.g_other_bits (T : Top K mg) : mg "other_bits" = some (.ref (He.ga K "other_bits")) := T.glo 29
theorem Top.g_bit_told (T : Top K mg) : mg "bit_told" = some (.ref (He.ga K "bit_told")) := T.glo 30
theorem Top.g_bit_asked (T : Top K mg) : mg "bit_asked" = some (.ref (He.ga K "bit_asked")) := T.glo 31
theorem Top.g_bit_set (T : Top K mg) : mg "bit_set" = some (.ref (He.ga K "bit_set")) := T.glo 32
theorem Top.g_bit_cleared (T : Top K mg) : mg "bit_cleared" = some (.ref (He.ga K "bit_cleared")) := T.glo 33
theorem Top.g_bit_turned (T : Top K mg) : mg "bit_turned" = some (.ref (He.ga K "bit_turned")) := T.glo 34
theorem Top.g_lowest_bit (T : Top K mg) : mg "lowest_bit" = some (.ref (He.ga K "lowest_bit")) := T.glo 35
theorem Top.g_highest_bit (T : Top K mg) : mg "highest_bit" = some (.ref (He.ga K "highest_bit")) := T.glo 36
theorem Top.g_bytes_turned (T : Top K mg) : mg "bytes_turned" = some (.ref (He.ga K "bytes_turned")) := T.glo 37
theorem Top.g_carry_cleared (T : Top K mg) : mg "carry_cleared" = some (.ref (He.ga K "carry_cleared")) := T.glo 38
theorem Top.g_carry_set (T : Top K mg) : mg "carry_set" = some (.ref (He.ga K "carry_set")) := T.glo 39
theorem Top.g_carry_turned (T : Top K mg) : mg "carry_turned" = some (.ref (He.ga K "carry_turned")) := T.glo 40
theorem Top.g_does_fit (T : Top K mg) : mg "does_fit" = some (.ref (He.ga K "does_fit")) := T.glo 41
theorem Top.g_multiply (T : Top K mg) : mg "multiply" = some (.ref (He.ga K "multiply")) := T.glo 42
theorem Top.g_multiply_signed (T : Top K mg) : mg "multiply_signed" = some (.ref (He.ga K "multiply_signed")) := T.glo 43
theorem Top.g_divide (T : Top K mg) : mg "divide" = some (.ref (He.ga K "divide")) := T.glo 44
theorem Top.g_divide_signed (T : Top K mg) : mg "divide_signed" = some (.ref (He.ga K "divide_signed")) := T.glo 45
theorem Top.g_is_low_wrong (T : Top K mg) : mg "is_low_wrong" = some (.ref (He.ga K "is_low_wrong")) := T.glo 46
theorem Top.g_is_high_wrong (T : Top K mg) : mg "is_high_wrong" = some (.ref (He.ga K "is_high_wrong")) := T.glo 47
theorem Top.g_after_sum (T : Top K mg) : mg "after_sum" = some (.ref (He.ga K "after_sum")) := T.glo 48
theorem Top.g_after_difference (T : Top K mg) : mg "after_difference" = some (.ref (He.ga K "after_difference")) := T.glo 49
theorem Top.g_one_digit (T : Top K mg) : mg "one_digit" = some (.ref (He.ga K "one_digit")) := T.glo 50
theorem Top.g_digit_after_sum (T : Top K mg) : mg "digit_after_sum" = some (.ref (He.ga K "digit_after_sum")) := T.glo 51
theorem Top.g_digit_after_difference (T : Top K mg) : mg "digit_after_difference" = some (.ref (He.ga K "digit_after_difference")) := T.glo 52
theorem Top.g_digits_parted (T : Top K mg) : mg "digits_parted" = some (.ref (He.ga K "digits_parted")) := T.glo 53
theorem Top.g_digits_joined (T : Top K mg) : mg "digits_joined" = some (.ref (He.ga K "digits_joined")) := T.glo 54
theorem Top.g_steps_by (T : Top K mg) : mg "steps_by" = some (.ref (He.ga K "steps_by")) := T.glo 55
theorem Top.g_only_by_one (T : Top K mg) : mg "only_by_one" = some (.ref (He.ga K "only_by_one")) := T.glo 56
theorem Top.g_shift_left (T : Top K mg) : mg "shift_left" = some (.ref (He.ga K "shift_left")) := T.glo 57
theorem Top.g_shift_right (T : Top K mg) : mg "shift_right" = some (.ref (He.ga K "shift_right")) := T.glo 58
theorem Top.g_shift_signed (T : Top K mg) : mg "shift_signed" = some (.ref (He.ga K "shift_signed")) := T.glo 59
theorem Top.g_turned_left (T : Top K mg) : mg "turned_left" = some (.ref (He.ga K "turned_left")) := T.glo 60
theorem Top.g_turn_left (T : Top K mg) : mg "turn_left" = some (.ref (He.ga K "turn_left")) := T.glo 61
theorem Top.g_turn_right (T : Top K mg) : mg "turn_right" = some (.ref (He.ga K "turn_right")) := T.glo 62
theorem Top.g_with_carry (T : Top K mg) : mg "with_carry" = some (.ref (He.ga K "with_carry")) := T.glo 63
theorem Top.g_carry_left (T : Top K mg) : mg "carry_left" = some (.ref (He.ga K "carry_left")) := T.glo 64
theorem Top.g_carry_right (T : Top K mg) : mg "carry_right" = some (.ref (He.ga K "carry_right")) := T.glo 65
theorem Top.g_double_steps (T : Top K mg) : mg "double_steps" = some (.ref (He.ga K "double_steps")) := T.glo 66
theorem Top.g_double_left (T : Top K mg) : mg "double_left" = some (.ref (He.ga K "double_left")) := T.glo 67
theorem Top.g_double_right (T : Top K mg) : mg "double_right" = some (.ref (He.ga K "double_right")) := T.glo 68
theorem Top.g_sum_of (T : Top K mg) : mg "sum_of" = some (.ref (He.ga K "sum_of")) := T.glo 69
theorem Top.g_less_of (T : Top K mg) : mg "less_of" = some (.ref (He.ga K "less_of")) := T.glo 70
theorem Top.g_but_carry (T : Top K mg) : mg "but_carry" = some (.ref (He.ga K "but_carry")) := T.glo 71
theorem Top.g_add (T : Top K mg) : mg "add" = some (.ref (He.ga K "add")) := T.glo 72
theorem Top.g_add_carry (T : Top K mg) : mg "add_carry" = some (.ref (He.ga K "add_carry")) := T.glo 73
theorem Top.g_subtract (T : Top K mg) : mg "subtract" = some (.ref (He.ga K "subtract")) := T.glo 74
theorem Top.g_subtract_borrow (T : Top K mg) : mg "subtract_borrow" = some (.ref (He.ga K "subtract_borrow")) := T.glo 75
theorem Top.g_compare (T : Top K mg) : mg "compare" = some (.ref (He.ga K "compare")) := T.glo 76
theorem Top.g_contrary (T : Top K mg) : mg "contrary" = some (.ref (He.ga K "contrary")) := T.glo 77
theorem Top.g_one_on (T : Top K mg) : mg "one_on" = some (.ref (He.ga K "one_on")) := T.glo 78
theorem Top.g_one_back (T : Top K mg) : mg "one_back" = some (.ref (He.ga K "one_back")) := T.glo 79
theorem Top.g_exchange_add (T : Top K mg) : mg "exchange_add" = some (.ref (He.ga K "exchange_add")) := T.glo 80
theorem Top.g_compare_exchange (T : Top K mg) : mg "compare_exchange" = some (.ref (He.ga K "compare_exchange")) := T.glo 81
theorem Top.g_widths_of (T : Top K mg) : mg "widths_of" = some (.ref (He.ga K "widths_of")) := T.glo 82
theorem Top.g_done (T : Top K mg) : mg "done" = some (.ref (He.ga K "done")) := T.glo 83
theorem Top.g_do (T : Top K mg) : mg "do" = some (.ref (He.ga K "do")) := T.glo 84
theorem Top.n_ValueError (T : Top K mg) : mg "ValueError" = none := T.free 85
theorem Top.n_abs (T : Top K mg) : mg "abs" = none := T.free 86
theorem Top.n_int (T : Top K mg) : mg "int" = none := T.free 87
theorem Top.n_len (T : Top K mg) : mg "len" = none := T.free 88
theorem Top.n_range (T : Top K mg) : mg "range" = none := T.free 89
theorem Top.n_sum (T : Top K mg) : mg "sum" = none := T.free 90
theorem Top.c_Operands (T : Top K mg) : Cls K (He.ga K "Operands") := He.cls_ok (T.c.d.fact 91 (f := .cls "Operands") rfl)
theorem Top.k_Operands (T : Top K mg) : Mk K (He.ga K "Operands") (He.ma K (He.ga K "Operands") "__init__") := He.mkr_ok (T.c.d.fact 92 (f := .mkr "Operands") rfl)
theorem Top.a_Operands_width (T : Top K mg) : NoAttr K (He.ga K "Operands") "width" := He.noat_ok (T.c.d.fact 93 (f := .noat "Operands" "width") rfl)
theorem Top.a_Operands_bound (T : Top K mg) : NoAttr K (He.ga K "Operands") "bound" := He.noat_ok (T.c.d.fact 94 (f := .noat "Operands" "bound") rfl)
theorem Top.a_Operands_a (T : Top K mg) : NoAttr K (He.ga K "Operands") "a" := He.noat_ok (T.c.d.fact 95 (f := .noat "Operands" "a") rfl)
theorem Top.a_Operands_b (T : Top K mg) : NoAttr K (He.ga K "Operands") "b" := He.noat_ok (T.c.d.fact 96 (f := .noat "Operands" "b") rfl)
theorem Top.a_Operands_c (T : Top K mg) : NoAttr K (He.ga K "Operands") "c" := He.noat_ok (T.c.d.fact 97 (f := .noat "Operands" "c") rfl)
theorem Top.a_Operands_flags (T : Top K mg) : NoAttr K (He.ga K "Operands") "flags" := He.noat_ok (T.c.d.fact 98 (f := .noat "Operands" "flags") rfl)
theorem Top.m_Operands_carry (T : Top K mg) : Meth K (He.ga K "Operands") "carry" (He.ma K (He.ga K "Operands") "carry") := He.meth_ok (T.c.d.fact 99 (f := .meth "Operands" "carry") rfl)
theorem Top.m_Operands_has_half (T : Top K mg) : Meth K (He.ga K "Operands") "has_half" (He.ma K (He.ga K "Operands") "has_half") := He.meth_ok (T.c.d.fact 100 (f := .meth "Operands" "has_half") rfl)
theorem Top.m_Operands_signed (T : Top K mg) : Meth K (He.ga K "Operands") "signed" (He.ma K (He.ga K "Operands") "signed") := He.meth_ok (T.c.d.fact 101 (f := .meth "Operands" "signed") rfl)
theorem Top.m_Operands_top (T : Top K mg) : Meth K (He.ga K "Operands") "top" (He.ma K (He.ga K "Operands") "top") := He.meth_ok (T.c.d.fact 102 (f := .meth "Operands" "top") rfl)
theorem Top.m_Operands_shows (T : Top K mg) : Meth K (He.ga K "Operands") "shows" (He.ma K (He.ga K "Operands") "shows") := He.meth_ok (T.c.d.fact 103 (f := .meth "Operands" "shows") rfl)
theorem Top.x_WIDE (T : Top K mg) : (He.tupB K "WIDE" [.int 20, .int 21, .int 26, .int 27, .int 28, .int 29, .int 30, .int 31]) = true := (He.ba T.c.x).1
theorem Top.x_TWO_DIGITS (T : Top K mg) : (He.tupB K "TWO_DIGITS" [.int 38, .int 39]) = true := (He.ba (He.ba T.c.x).2).1
theorem Top.x_ONE_DIGIT (T : Top K mg) : (He.tupB K "ONE_DIGIT" [.int 40, .int 41, .int 42, .int 43]) = true := (He.ba (He.ba (He.ba T.c.x).2).2).1
theorem Top.x_OPERATIONS (T : Top K mg) : (He.lstB K "OPERATIONS" lst_OPERATIONS) = true := (He.ba (He.ba (He.ba (He.ba T.c.x).2).2).2).1
theorem Top.x_Refused (T : Top K mg) : (oexB K "Refused" "number") = true := (He.ba (He.ba (He.ba (He.ba T.c.x).2).2).2).2
theorem Top.t_WIDE (T : Top K mg) (H : Hp) : SqT K H (He.ga K "WIDE") [.int 20, .int 21, .int 26, .int 27, .int 28, .int 29, .int 30, .int 31] := He.tupB_ok T.x_WIDE H
theorem Top.t_TWO_DIGITS (T : Top K mg) (H : Hp) : SqT K H (He.ga K "TWO_DIGITS") [.int 38, .int 39] := He.tupB_ok T.x_TWO_DIGITS H
theorem Top.t_ONE_DIGIT (T : Top K mg) (H : Hp) : SqT K H (He.ga K "ONE_DIGIT") [.int 40, .int 41, .int 42, .int 43] := He.tupB_ok T.x_ONE_DIGIT H
end
theorem sc_bit_of : FnScope ["number", "place"] ["number", "place"] d_bit_of.scope := ⟨rfl, rfl, rfl, by decide +kernel, rfl, by decide +kernel, by decide +kernel⟩
theorem sc_with_bit : FnScope ["number", "place", "bit"] ["number", "place", "bit"] d_with_bit.scope := ⟨rfl, rfl, rfl, by decide +kernel, rfl, by decide +kernel, by decide +kernel⟩
theorem sc_with_flags : FnScope ["word", "given", "place", "truth"] ["word", "given"] d_with_flags.scope := ⟨rfl, rfl, rfl, by decide +kernel, rfl, by decide +kernel, by decide +kernel⟩
theorem sc_Refused_init : FnScope ["self", "number"] ["self", "number"] d_Refused_init.scope := ⟨rfl, rfl, rfl, by decide +kernel, rfl, by decide +kernel, by decide +kernel⟩
theorem sc_Operands_init : FnScope ["self", "width", "a", "b", "c", "flags"] ["self", "width", "a", "b", "c", "flags"] d_Operands_init.scope := ⟨rfl, rfl, rfl, by decide +kernel, rfl, by decide +kernel, by decide +kernel⟩
theorem sc_Operands_carry : FnScope ["self"] ["self"] d_Operands_carry.scope := ⟨rfl, rfl, rfl, by decide +kernel, rfl, by decide +kernel, by decide +kernel⟩
theorem sc_Operands_has_half : FnScope ["self"] ["self"] d_Operands_has_half.scope := ⟨rfl, rfl, rfl, by decide +kernel, rfl, by decide +kernel, by decide +kernel⟩
theorem sc_Operands_signed : FnScope ["self", "number"] ["self", "number"] d_Operands_signed.scope := ⟨rfl, rfl, rfl, by decide +kernel, rfl, by decide +kernel, by decide +kernel⟩
theorem sc_Operands_top : FnScope ["self", "number"] ["self", "number"] d_Operands_top.scope := ⟨rfl, rfl, rfl, by decide +kernel, rfl, by decide +kernel, by decide +kernel⟩
theorem sc_Operands_shows : FnScope ["self", "number"] ["self", "number"] d_Operands_shows.scope := ⟨rfl, rfl, rfl, by decide +kernel, rfl, by decide +kernel, by decide +kernel⟩
theorem sc_is_even : FnScope ["number", "place"] ["number"] d_is_even.scope := ⟨rfl, rfl, rfl, by decide +kernel, rfl, by decide +kernel, by decide +kernel⟩
theorem sc_shown : FnScope ["number", "width"] ["number", "width"] d_shown.scope := ⟨rfl, rfl, rfl, by decide +kernel, rfl, by decide +kernel, by decide +kernel⟩
theorem sc_plain : FnScope ["on", "low"] ["on", "low"] d_plain.scope := ⟨rfl, rfl, rfl, by decide +kernel, rfl, by decide +kernel, by decide +kernel⟩
theorem sc_both_bits : FnScope ["on"] ["on"] d_both_bits.scope := ⟨rfl, rfl, rfl, by decide +kernel, rfl, by decide +kernel, by decide +kernel⟩
theorem sc_either_bit : FnScope ["on"] ["on"] d_either_bit.scope := ⟨rfl, rfl, rfl, by decide +kernel, rfl, by decide +kernel, by decide +kernel⟩
theorem sc_unlike_bits : FnScope ["on"] ["on"] d_unlike_bits.scope := ⟨rfl, rfl, rfl, by decide +kernel, rfl, by decide +kernel, by decide +kernel⟩
theorem sc_tried_bits : FnScope ["on"] ["on"] d_tried_bits.scope := ⟨rfl, rfl, rfl, by decide +kernel, rfl, by decide +kernel, by decide +kernel⟩
theorem sc_other_bits : FnScope ["on"] ["on"] d_other_bits.scope := ⟨rfl, rfl, rfl, by decide +kernel, rfl, by decide +kernel, by decide +kernel⟩
theorem sc_bit_told : FnScope ["on", "low"] ["on", "low"] d_bit_told.scope := ⟨rfl, rfl, rfl, by decide +kernel, rfl, by decide +kernel, by decide +kernel⟩
theorem sc_bit_asked : FnScope ["on"] ["on"] d_bit_asked.scope := ⟨rfl, rfl, rfl, by decide +kernel, rfl, by decide +kernel, by decide +kernel⟩
theorem sc_bit_set : FnScope ["on"] ["on"] d_bit_set.scope := ⟨rfl, rfl, rfl, by decide +kernel, rfl, by decide +kernel, by decide +kernel⟩
theorem sc_bit_cleared : FnScope ["on"] ["on"] d_bit_cleared.scope := ⟨rfl, rfl, rfl, by decide +kernel, rfl, by decide +kernel, by decide +kernel⟩
theorem sc_bit_turned : FnScope ["on", "place"] ["on"] d_bit_turned.scope := ⟨rfl, rfl, rfl, by decide +kernel, rfl, by decide +kernel, by decide +kernel⟩
theorem sc_lowest_bit : FnScope ["on"] ["on"] d_lowest_bit.scope := ⟨rfl, rfl, rfl, by decide +kernel, rfl, by decide +kernel, by decide +kernel⟩
theorem sc_highest_bit : FnScope ["on"] ["on"] d_highest_bit.scope := ⟨rfl, rfl, rfl, by decide +kernel, rfl, by decide +kernel, by decide +kernel⟩
theorem sc_bytes_turned : FnScope ["on", "low", "place"] ["on"] d_bytes_turned.scope := ⟨rfl, rfl, rfl, by decide +kernel, rfl, by decide +kernel, by decide +kernel⟩
theorem sc_carry_cleared : FnScope ["on"] ["on"] d_carry_cleared.scope := ⟨rfl, rfl, rfl, by decide +kernel, rfl, by decide +kernel, by decide +kernel⟩
theorem sc_carry_set : FnScope ["on"] ["on"] d_carry_set.scope := ⟨rfl, rfl, rfl, by decide +kernel, rfl, by decide +kernel, by decide +kernel⟩
theorem sc_carry_turned : FnScope ["on"] ["on"] d_carry_turned.scope := ⟨rfl, rfl, rfl, by decide +kernel, rfl, by decide +kernel, by decide +kernel⟩
theorem sc_does_fit : FnScope ["on", "number"] ["on", "number"] d_does_fit.scope := ⟨rfl, rfl, rfl, by decide +kernel, rfl, by decide +kernel, by decide +kernel⟩
theorem sc_multiply : FnScope ["on", "whole", "high"] ["on"] d_multiply.scope := ⟨rfl, rfl, rfl, by decide +kernel, rfl, by decide +kernel, by decide +kernel⟩
theorem sc_multiply_signed : FnScope ["on", "number", "whole", "over"] ["on"] d_multiply_signed.scope := ⟨rfl, rfl, rfl, by decide +kernel, rfl, by decide +kernel, by decide +kernel⟩
theorem sc_divide : FnScope ["on", "whole"] ["on"] d_divide.scope := ⟨rfl, rfl, rfl, by decide +kernel, rfl, by decide +kernel, by decide +kernel⟩
theorem sc_divide_signed : FnScope ["on", "whole", "by", "quotient"] ["on"] d_divide_signed.scope := ⟨rfl, rfl, rfl, by decide +kernel, rfl, by decide +kernel, by decide +kernel⟩
theorem sc_is_low_wrong : FnScope ["on"] ["on"] d_is_low_wrong.scope := ⟨rfl, rfl, rfl, by decide +kernel, rfl, by decide +kernel, by decide +kernel⟩
theorem sc_is_high_wrong : FnScope ["on"] ["on"] d_is_high_wrong.scope := ⟨rfl, rfl, rfl, by decide +kernel, rfl, by decide +kernel, by decide +kernel⟩
theorem sc_after_sum : FnScope ["on", "low"] ["on"] d_after_sum.scope := ⟨rfl, rfl, rfl, by decide +kernel, rfl, by decide +kernel, by decide +kernel⟩
theorem sc_after_difference : FnScope ["on", "low", "carry"] ["on"] d_after_difference.scope := ⟨rfl, rfl, rfl, by decide +kernel, rfl, by decide +kernel, by decide +kernel⟩
theorem sc_one_digit : FnScope ["on", "number", "whole", "low"] ["on", "number"] d_one_digit.scope := ⟨rfl, rfl, rfl, by decide +kernel, rfl, by decide +kernel, by decide +kernel⟩
theorem sc_digit_after_sum : FnScope ["on"] ["on"] d_digit_after_sum.scope := ⟨rfl, rfl, rfl, by decide +kernel, rfl, by decide +kernel, by decide +kernel⟩
theorem sc_digit_after_difference : FnScope ["on"] ["on"] d_digit_after_difference.scope := ⟨rfl, rfl, rfl, by decide +kernel, rfl, by decide +kernel, by decide +kernel⟩
theorem sc_digits_parted : FnScope ["on", "by", "number"] ["on"] d_digits_parted.scope := ⟨rfl, rfl, rfl, by decide +kernel, rfl, by decide +kernel, by decide +kernel⟩
theorem sc_digits_joined : FnScope ["on", "low"] ["on"] d_digits_joined.scope := ⟨rfl, rfl, rfl, by decide +kernel, rfl, by decide +kernel, by decide +kernel⟩
theorem sc_steps_by : FnScope ["on", "number"] ["on", "number"] d_steps_by.scope := ⟨rfl, rfl, rfl, by decide +kernel, rfl, by decide +kernel, by decide +kernel⟩
theorem sc_only_by_one : FnScope ["steps", "truth"] ["steps", "truth"] d_only_by_one.scope := ⟨rfl, rfl, rfl, by decide +kernel, rfl, by decide +kernel, by decide +kernel⟩
theorem sc_shift_left : FnScope ["on", "steps", "low", "given", "carry"] ["on"] d_shift_left.scope := ⟨rfl, rfl, rfl, by decide +kernel, rfl, by decide +kernel, by decide +kernel⟩
theorem sc_shift_right : FnScope ["on", "steps", "low", "given"] ["on"] d_shift_right.scope := ⟨rfl, rfl, rfl, by decide +kernel, rfl, by decide +kernel, by decide +kernel⟩
theorem sc_shift_signed : FnScope ["on", "steps", "number", "low", "given"] ["on"] d_shift_signed.scope := ⟨rfl, rfl, rfl, by decide +kernel, rfl, by decide +kernel, by decide +kernel⟩
theorem sc_turned_left : FnScope ["number", "steps", "width", "here", "bound"] ["number", "steps", "width"] d_turned_left.scope := ⟨rfl, rfl, rfl, by decide +kernel, rfl, by decide +kernel, by decide +kernel⟩
theorem sc_turn_left : FnScope ["on", "steps", "low", "carry"] ["on"] d_turn_left.scope := ⟨rfl, rfl, rfl, by decide +kernel, rfl, by decide +kernel, by decide +kernel⟩
theorem sc_turn_right : FnScope ["on", "steps", "low", "differ"] ["on"] d_turn_right.scope := ⟨rfl, rfl, rfl, by decide +kernel, rfl, by decide +kernel, by decide +kernel⟩
theorem sc_with_carry : FnScope ["on"] ["on"] d_with_carry.scope := ⟨rfl, rfl, rfl, by decide +kernel, rfl, by decide +kernel, by decide +kernel⟩
theorem sc_carry_left : FnScope ["on", "steps", "whole", "low", "carry"] ["on"] d_carry_left.scope := ⟨rfl, rfl, rfl, by decide +kernel, rfl, by decide +kernel, by decide +kernel⟩
theorem sc_carry_right : FnScope ["on", "steps", "wide", "whole", "differ"] ["on"] d_carry_right.scope := ⟨rfl, rfl, rfl, by decide +kernel, rfl, by decide +kernel, by decide +kernel⟩
theorem sc_double_steps : FnScope ["on", "steps"] ["on"] d_double_steps.scope := ⟨rfl, rfl, rfl, by decide +kernel, rfl, by decide +kernel, by decide +kernel⟩
theorem sc_double_left : FnScope ["on", "steps", "low", "given"] ["on"] d_double_left.scope := ⟨rfl, rfl, rfl, by decide +kernel, rfl, by decide +kernel, by decide +kernel⟩
theorem sc_double_right : FnScope ["on", "steps", "low", "given"] ["on"] d_double_right.scope := ⟨rfl, rfl, rfl, by decide +kernel, rfl, by decide +kernel, by decide +kernel⟩
theorem sc_sum_of : FnScope ["on", "one", "other", "more", "whole", "low", "half", "over"] ["on", "one", "other", "more"] d_sum_of.scope := ⟨rfl, rfl, rfl, by decide +kernel, rfl, by decide +kernel, by decide +kernel⟩
theorem sc_less_of : FnScope ["on", "one", "other", "more", "low", "half", "over"] ["on", "one", "other", "more"] d_less_of.scope := ⟨rfl, rfl, rfl, by decide +kernel, rfl, by decide +kernel, by decide +kernel⟩
theorem sc_but_carry : FnScope ["given", "flag"] ["given"] d_but_carry.scope := ⟨rfl, rfl, rfl, by decide +kernel, rfl, by decide +kernel, by decide +kernel⟩
theorem sc_add : FnScope ["on", "low", "given"] ["on"] d_add.scope := ⟨rfl, rfl, rfl, by decide +kernel, rfl, by decide +kernel, by decide +kernel⟩
theorem sc_add_carry : FnScope ["on", "low", "given"] ["on"] d_add_carry.scope := ⟨rfl, rfl, rfl, by decide +kernel, rfl, by decide +kernel, by decide +kernel⟩
theorem sc_subtract : FnScope ["on", "low", "given"] ["on"] d_subtract.scope := ⟨rfl, rfl, rfl, by decide +kernel, rfl, by decide +kernel, by decide +kernel⟩
theorem sc_subtract_borrow : FnScope ["on", "low", "given"] ["on"] d_subtract_borrow.scope := ⟨rfl, rfl, rfl, by decide +kernel, rfl, by decide +kernel, by decide +kernel⟩
theorem sc_compare : FnScope ["on"] ["on"] d_compare.scope := ⟨rfl, rfl, rfl, by decide +kernel, rfl, by decide +kernel, by decide +kernel⟩
theorem sc_contrary : FnScope ["on", "low", "given"] ["on"] d_contrary.scope := ⟨rfl, rfl, rfl, by decide +kernel, rfl, by decide +kernel, by decide +kernel⟩
theorem sc_one_on : FnScope ["on", "low", "given"] ["on"] d_one_on.scope := ⟨rfl, rfl, rfl, by decide +kernel, rfl, by decide +kernel, by decide +kernel⟩
theorem sc_one_back : FnScope ["on", "low", "given"] ["on"] d_one_back.scope := ⟨rfl, rfl, rfl, by decide +kernel, rfl, by decide +kernel, by decide +kernel⟩
theorem sc_exchange_add : FnScope ["on", "low", "given"] ["on"] d_exchange_add.scope := ⟨rfl, rfl, rfl, by decide +kernel, rfl, by decide +kernel, by decide +kernel⟩
theorem sc_compare_exchange : FnScope ["on", "low"] ["on"] d_compare_exchange.scope := ⟨rfl, rfl, rfl, by decide +kernel, rfl, by decide +kernel, by decide +kernel⟩
theorem sc_widths_of : FnScope ["operation"] ["operation"] d_widths_of.scope := ⟨rfl, rfl, rfl, by decide +kernel, rfl, by decide +kernel, by decide +kernel⟩
theorem sc_done : FnScope ["operation", "width", "numbers", "flags", "deed"] ["operation", "width", "numbers", "flags"] d_done.scope := ⟨rfl, rfl, rfl, by decide +kernel, rfl, by decide +kernel, by decide +kernel⟩
theorem sc_do : FnScope ["op", "width", "a", "b", "c", "flags", "e", "low", "high", "given"] ["op", "width", "a", "b", "c", "flags"] d_do.scope := ⟨rfl, rfl, rfl, by decide +kernel, rfl, by decide +kernel, by decide +kernel⟩
def names_0 : List Str := ["CARRY", "PARITY", "HALF", "ZERO", "SIGN", "OVER", "bit_of", "with_bit", "with_flags", "Refused", "Operands", "is_even", "shown", "plain", "both_bits", "either_bit"]
def names_1 : List Str := ["unlike_bits", "tried_bits", "other_bits", "bit_told", "bit_asked", "bit_set", "bit_cleared", "bit_turned", "lowest_bit", "highest_bit", "bytes_turned", "carry_cleared", "carry_set", "carry_turned", "NO_QUOTIENT", "does_fit"]
def names_2 : List Str := ["multiply", "multiply_signed", "divide", "divide_signed", "BYTE", "MOST_TWO", "BOTH_DIGITS", "is_low_wrong", "is_high_wrong", "after_sum", "after_difference", "one_digit", "digit_after_sum", "digit_after_difference", "digits_parted", "digits_joined"]
def names_3 : List Str := ["TOO_FAR", "steps_by", "only_by_one", "shift_left", "shift_right", "shift_signed", "turned_left", "turn_left", "turn_right", "with_carry", "carry_left", "carry_right", "double_steps", "double_left", "double_right", "sum_of"]
def names_4 : List Str := ["less_of", "but_carry", "add", "add_carry", "subtract", "subtract_borrow", "compare", "contrary", "one_on", "one_back", "exchange_add", "compare_exchange", "NO_OPERATION", "OPERATIONS", "WIDE", "TURNING_BYTES"]
def names_5 : List Str := ["TWO_DIGITS", "ONE_DIGIT", "widths_of", "done"]
def names : List Str := names_0 ++ (names_1 ++ (names_2 ++ (names_3 ++ (names_4 ++ (names_5)))))
abbrev hk : PySem.W.Hook := hookX 5 fa fn exB
def ob (s : PySem.W.SharedT) : AlX := obsXG 5 fa fn exB (HandSHeadRun.getT s)
theorem ob_eq (s : PySem.W.SharedT) : ob s = hk.obs s.abs := obsXG_eq (HandSHeadRun.getT_eq s)
abbrev qv : Program := PySem.W.view RR.prog [93]
abbrev lawDef : DefRec := HandSHeadRun.topDef RR.prog 93
/-! ### bit_of -/
theorem pv_len {ι : Type} {args : ι → List V} {pre : ι → Hp → Prop} {val : ι → V} {n : Nat} (h : ∀ i, (args i).length = n) (vs : List V) (H : Hp) (Q : VK) (E : XK) (x : Pv args pre val vs H Q E) : vs.length = n := by
  obtain ⟨i, rfl, _⟩ := x
  exact h i
theorem pr_len {ι : Type} {args : ι → List V} {pre : ι → Hp → Prop} {post : ι → V → Hp → Prop} {n : Nat} (h : ∀ i, (args i).length = n) (vs : List V) (H : Hp) (Q : VK) (E : XK) (x : Pr args pre post vs H Q E) : vs.length = n := by
  obtain ⟨i, rfl, _⟩ := x
  exact h i
section
variable {P : Program} {w : World} {K : PySem.W.Frag} {mg : Str → Option Value} {base : Heap}
abbrev spBit : Sp := Pv (ι := Int × Nat) (fun i => [.int i.1, nv i.2]) (fun _ _ => True) (fun i => .int (i.1 / 2 ^ i.2 % 2))
theorem has_bit_of (T : Top K mg) : Has P w K mg base 1 "bit_of" ["number", "place"] spBit := by
  refine has_of d_bit_of T.f_bit_of T.g_bit_of sc_bit_of (fun _ _ _ _ _ _ us hl => match us, hl with | [_, _], _ => rfl) (pv_len fun _ => rfl) fun cdv A outer s H vs Q E hr h => ?_
  obtain ⟨⟨z, p⟩, rfl, _, q⟩ := h
  exact r_retV (oddI (shrI (xv 0) (xv 1)) xi) q
end
theorem nbit {n p : Nat} : V.int ((n : Int) / 2 ^ p % 2) = nv (n / 2 ^ p % 2) := by
  rw [← PySem.W.kbt_cast]
  exact congrArg V.int (by rw [Int.natCast_emod, Int.natCast_ediv] <;> rfl)
section
variable {X : Cx} {σ : St} {H : Hp} {e1 e2 : Expr} {p1 pos : Pos}
/-- bit_of(a number, a place) -/
theorem c_bitI {k p : Nat} {z : Int} (T : Top X.K X.mg) (hr : Room k X.A) (h1 : Is X σ H e1 (.int z)) (h2 : Is X σ H e2 (nv p)) (hk : 1 ≤ k := by decide) (hg : Gl X "bit_of" := by rfl)
    (s1 : starEach [e1, e2] X.env = (false, eval e1 X.env) :: starEach [e2] X.env := by rfl) (s2 : starEach [e2] X.env = (false, eval e2 X.env) :: starEach [] X.env := by rfl) (hpl : (backTo pos (starEach [e2] X.env)).any (·.1) = false := by rfl) : Is X σ H (.Call (.Name "bit_of" p1) [e1, e2] [] pos) (.int (z / 2 ^ p % 2)) :=
  x_pv (has_bit_of T) (hr.mono hk) (z, p) (ac h1 (a1 h2 s2) s1) (fun _ _ => trivial) hg (by decide) s1 hpl
theorem c_bit {k n p : Nat} (T : Top X.K X.mg) (hr : Room k X.A) (h1 : Is X σ H e1 (nv n)) (h2 : Is X σ H e2 (nv p)) (hk : 1 ≤ k := by decide) (hg : Gl X "bit_of" := by rfl)
    (s1 : starEach [e1, e2] X.env = (false, eval e1 X.env) :: starEach [e2] X.env := by rfl) (s2 : starEach [e2] X.env = (false, eval e2 X.env) :: starEach [] X.env := by rfl) (hpl : (backTo pos (starEach [e2] X.env)).any (·.1) = false := by rfl) : Is X σ H (.Call (.Name "bit_of" p1) [e1, e2] [] pos) (nv (n / 2 ^ p % 2)) :=
  (c_bitI T hr h1 h2 hk hg s1 s2 hpl).to nbit
end
/-! ### with_bit, with_flags -/
section
variable {P : Program} {w : World} {K : PySem.W.Frag} {mg : Str → Option Value} {base : Heap}
abbrev spWithBit : Sp := Pv (ι := Nat × Nat × Bool) (fun i => [nv i.1, nv i.2.1, nv (if i.2.2 = true then 1 else 0)]) (fun i _ => i.2.1 ≤ 64) (fun i => nv (FwOps.withBit i.1 i.2.1 i.2.2))
theorem has_with_bit (T : Top K mg) : Has P w K mg base 2 "with_bit" ["number", "place", "bit"] spWithBit := by
  refine has_of d_with_bit T.f_with_bit T.g_with_bit sc_with_bit (fun _ _ _ _ _ _ us hl => match us, hl with | [_, _, _], _ => rfl) (pv_len fun _ => rfl) fun cdv A outer s H vs Q E hr h => ?_
  obtain ⟨⟨n, p, v⟩, rfl, hp, q⟩ := h
  have hp : p ≤ 64 := hp
  have b1 := Nat.mod_lt (n / 2 ^ p) (show 0 < 2 by decide)
  refine r_retV ((addN (subN (xv 0) (shlN (c_bit T hr (xv 0) (xv 1)) (xv 1) (shl_ok (n := 1) (by omega) (by omega))) (bit_le n p)) (shlN (xv 2) (xv 1) (shl_ok (n := 1) (by split <;> decide) (by omega)))).to ?_) q
  rw [withBit_is]
abbrev spWithFlags : Sp := Pv (ι := Nat × Addr × List Giv) (fun i => [nv i.1, .ref i.2.1]) (fun i H => FlAt i.2.2 i.2.1 H ∧ ∀ g ∈ i.2.2, g.1 ≤ 64) (fun i => nv (FwOps.giving i.1 i.2.2))
theorem has_with_flags (T : Top K mg) : Has P w K mg base 3 "with_flags" ["word", "given"] spWithFlags := by
  refine has_of d_with_flags T.f_with_flags T.g_with_flags sc_with_flags (fun _ _ _ _ _ _ us hl => match us, hl with | [_, _], _ => rfl) (pv_len fun _ => rfl) fun cdv A outer s H vs Q E hr h => ?_
  obtain ⟨⟨f, g, l⟩, rfl, ⟨hg, hl⟩, q⟩ := h
  refine r_forF (l := l) 2 3 (fun i σ => ∃ o1 o2, σ = [some (nv (FwOps.giving f (l.take i))), some (.ref g), o1, o2]) (xv 1) hg PassesOwn.never sc_with_flags.nd ⟨none, none, rfl⟩ ?_ ?_
  · intro t x σ' H1 e1 hx hI D' hD
    obtain ⟨o1, o2, rfl⟩ := hI
    have hm := hl x (List.mem_of_getElem? hx)
    refine r_set 0 (x_pv (has_with_bit T) hr (FwOps.giving f (l.take t), x.1, x.2) (ac (xv 0) (ac (xv 2) (a1 (x_intB T.n_int (xv 3))))) (fun _ _ => hm)) (r_nil fun H2 e2 => hD _ H2 ⟨some (nv x.1), some (.bl x.2), ?_⟩ e2) sc_with_flags.nd
    rw [giving_more (take_more hx)]
    rfl
  · intro σ' H1 e1 hI
    obtain ⟨o1, o2, rfl⟩ := hI
    refine r_retV (xv 0) fun H2 e2 => ?_
    show Q (nv (FwOps.giving f (l.take l.length))) H2
    rw [List.take_length]
    exact q H2 (e1.trans e2)
end
/-! ### Operands: how one lies in the heap -/
structure On where
  w : Nat
  a : Nat
  b : Nat
  c : Nat
  f : Nat
def onF (o : On) : List (Str × V) := [("width", nv o.w), ("bound", nv (2 ^ o.w)), ("a", nv o.a), ("b", nv o.b), ("c", nv o.c), ("flags", nv o.f)]
theorem lk_here {k : Str} {v : V} {r : List (Str × V)} : List.lookup k ((k, v) :: r) = some v := by
  have e : (k == k) = true := beq_self_eq_true k
  simp only [List.lookup, e]
theorem lk_past {k g : Str} {v : V} {r : List (Str × V)} (h : (k == g) = false) : List.lookup k ((g, v) :: r) = List.lookup k r := by
  simp only [List.lookup, h]
theorem put_past {f g : Str} {v x : V} {r : List (Str × V)} (h : ¬ g = f) : putF f v ((g, x) :: r) = (g, x) :: putF f v r := if_neg h
theorem put_end {f : Str} {v : V} : putF f v [] = [(f, v)] := rfl
section
variable (o : On)
theorem on_width : (onF o).lookup ("width" : Str) = some (nv o.w) := lk_here
theorem on_bound : (onF o).lookup ("bound" : Str) = some (nv (2 ^ o.w)) := (lk_past (by decide +kernel)).trans lk_here
theorem on_a : (onF o).lookup ("a" : Str) = some (nv o.a) := (lk_past (by decide +kernel)).trans ((lk_past (by decide +kernel)).trans lk_here)
theorem on_b : (onF o).lookup ("b" : Str) = some (nv o.b) := (lk_past (by decide +kernel)).trans ((lk_past (by decide +kernel)).trans ((lk_past (by decide +kernel)).trans lk_here))
theorem on_c : (onF o).lookup ("c" : Str) = some (nv o.c) := (lk_past (by decide +kernel)).trans ((lk_past (by decide +kernel)).trans ((lk_past (by decide +kernel)).trans ((lk_past (by decide +kernel)).trans lk_here)))
theorem on_flags : (onF o).lookup ("flags" : Str) = some (nv o.f) := (lk_past (by decide +kernel)).trans ((lk_past (by decide +kernel)).trans ((lk_past (by decide +kernel)).trans ((lk_past (by decide +kernel)).trans ((lk_past (by decide +kernel)).trans lk_here))))
/-- a method's name is none of the attributes -/
theorem on_meth {m : Str} (h : (((m == ("width" : Str)) || (m == ("bound" : Str))) || ((m == ("a" : Str)) || (m == ("b" : Str))) || ((m == ("c" : Str)) || (m == ("flags" : Str)))) = false) : (onF o).lookup m = none := by
  simp only [Bool.or_eq_false_iff] at h
  obtain ⟨⟨⟨h1, h2⟩, h3, h4⟩, h5, h6⟩ := h
  unfold onF
  rw [lk_past h1, lk_past h2, lk_past h3, lk_past h4, lk_past h5, lk_past h6]
  rfl
end
def OnAt (K : PySem.W.Frag) (o : On) (p : Addr) (H : Hp) : Prop := ∃ dx, H p = some (.ins (He.ga K "Operands") dx (onF o))
theorem OnAt.mono {K : PySem.W.Frag} {o : On} {p : Addr} {H H' : Hp} (e : Ex H H') (h : OnAt K o p H) : OnAt K o p H' := by
  obtain ⟨dx, h⟩ := h
  exact ⟨dx, e _ _ h⟩
section
variable {X : Cx} {σ : St} {H : Hp} {e e1 : Expr} {v : V} {pos p1 p2 : Pos} {o : On} {p : Addr}
theorem g_width (T : Top X.K X.mg) (h : OnAt X.K o p H) (he : Is X σ H e (.ref p)) (hb : attributeBase e "width" X.env (eval e X.env) = eval e X.env := by rfl) : Is X σ H (.Attribute e "width" pos) (nv o.w) := by
  obtain ⟨dx, h⟩ := h
  exact x_fld he h T.c_Operands T.a_Operands_width (on_width o) hb
theorem g_bound (T : Top X.K X.mg) (h : OnAt X.K o p H) (he : Is X σ H e (.ref p)) (hb : attributeBase e "bound" X.env (eval e X.env) = eval e X.env := by rfl) : Is X σ H (.Attribute e "bound" pos) (nv (2 ^ o.w)) := by
  obtain ⟨dx, h⟩ := h
  exact x_fld he h T.c_Operands T.a_Operands_bound (on_bound o) hb
theorem g_a (T : Top X.K X.mg) (h : OnAt X.K o p H) (he : Is X σ H e (.ref p)) (hb : attributeBase e "a" X.env (eval e X.env) = eval e X.env := by rfl) : Is X σ H (.Attribute e "a" pos) (nv o.a) := by
  obtain ⟨dx, h⟩ := h
  exact x_fld he h T.c_Operands T.a_Operands_a (on_a o) hb
theorem g_b (T : Top X.K X.mg) (h : OnAt X.K o p H) (he : Is X σ H e (.ref p)) (hb : attributeBase e "b" X.env (eval e X.env) = eval e X.env := by rfl) : Is X σ H (.Attribute e "b" pos) (nv o.b) := by
  obtain ⟨dx, h⟩ := h
  exact x_fld he h T.c_Operands T.a_Operands_b (on_b o) hb
theorem g_c (T : Top X.K X.mg) (h : OnAt X.K o p H) (he : Is X σ H e (.ref p)) (hb : attributeBase e "c" X.env (eval e X.env) = eval e X.env := by rfl) : Is X σ H (.Attribute e "c" pos) (nv o.c) := by
  obtain ⟨dx, h⟩ := h
  exact x_fld he h T.c_Operands T.a_Operands_c (on_c o) hb
theorem g_flags (T : Top X.K X.mg) (h : OnAt X.K o p H) (he : Is X σ H e (.ref p)) (hb : attributeBase e "flags" X.env (eval e X.env) = eval e X.env := by rfl) : Is X σ H (.Attribute e "flags" pos) (nv o.f) := by
  obtain ⟨dx, h⟩ := h
  exact x_fld he h T.c_Operands T.a_Operands_flags (on_flags o) hb
end
/-! ### is_even, shown -/
section
variable {P : Program} {w : World} {K : PySem.W.Frag} {mg : Str → Option Value} {base : Heap}
abbrev spEven8 : Sp := Pv (ι := Nat) (fun n => [nv n]) (fun _ _ => True) (fun n => .bl (FwOps.even8 n))
theorem has_is_even (T : Top K mg) : Has P w K mg base 2 "is_even" ["number"] spEven8 := by
  refine has_of d_is_even T.f_is_even T.g_is_even sc_is_even (fun _ _ _ _ _ _ us hl => match us, hl with | [_], _ => rfl) (pv_len fun _ => rfl) fun cdv A outer s H vs Q E hr h => ?_
  obtain ⟨n, rfl, _, q⟩ := h
  refine r_retV (v := .bl (FwOps.even8 n)) ?_ q
  refine (x_inU [0, 2, 4, 6, 8] (n := ((List.range 8).map fun i => n / 2 ^ i % 2).sum) ?_ (ac (xn 0) (ac (xn 2) (ac (xn 4) (ac (xn 6) (a1 (xn 8)))))) (by decide)).to (congrArg V.bl (even_is n))
  refine Gets.is (x_callBG (R := fun vs H => ∃ q, vs = [.ref q] ∧ H q = some (.lst (((List.range 8).map fun i => n / 2 ^ i % 2).map nv))) (cr_sum rfl) T.n_sum (by decide +kernel) ?_ ?_)
  · refine ag1 ((x_lcR (j := 1) (r := 8) (own := [("place", 1)]) (E := fun i t _ => t = nv (n / 2 ^ i % 2)) (fun _ _ _ _ _ h => h) T.n_range (a1 (xn 8)) (by decide) sc_is_even.nd (blkOk_by (N := ["number", "place"]) (sc := d_is_even.scope) (by decide +kernel)) ?_ ?_).imp fun v H1 _ h => ?_) (P := fun v H => ∃ q, v = .ref q ∧ H q = some (.lst (((List.range 8).map fun i => n / 2 ^ i % 2).map nv))) ?_
    · intro i H1 e1 hi s0 H0 C cl fp
      exact (c_bit T hr (xv 0) (xv 1)).gets
    · exact fun _ _ _ _ _ => pg_name sc_is_even.nd rfl (Or.inl rfl)
    · obtain ⟨q, ts, rfl, hq, hl, hall⟩ := h
      refine ⟨q, rfl, ?_⟩
      rw [hq]
      congr 2
      refine List.ext_getElem? fun i => ?_
      by_cases hi : i < 8
      · have h1 : ts[i]? = some ts[i] := List.getElem?_eq_getElem (by omega)
        rw [h1, hall i _ h1, List.getElem?_map, List.getElem?_map, List.getElem?_range hi]
        rfl
      · rw [List.getElem?_eq_none (by omega), List.getElem?_eq_none (by simp; omega)]
    · intro vs H1 h
      obtain ⟨v, rfl, q, rfl, hq⟩ := h
      exact ⟨q, rfl, hq⟩
  · intro vs H1 e1 hv Q' qq
    obtain ⟨g, rfl, hg⟩ := hv
    refine ⟨g, ((List.range 8).map fun i => n / 2 ^ i % 2).map Int.ofNat, rfl, SqL.of ?_, ?_⟩
    · rw [hg, List.map_map]
      rfl
    · have z := qq (nv ((List.range 8).map fun i => n / 2 ^ i % 2).sum) H1 (Ex.refl _) rfl
      have e2 : (((List.range 8).map fun i => n / 2 ^ i % 2).map Int.ofNat).sum = ((((List.range 8).map fun i => n / 2 ^ i % 2).sum : Nat) : Int) := by
        generalize (List.range 8).map (fun i => n / 2 ^ i % 2) = l
        induction l with
        | nil => rfl
        | cons x r ih =>
          rw [List.map_cons, List.sum_cons, List.sum_cons, ih, Int.natCast_add]
          rfl
      rw [e2]
      exact z
abbrev spShown : Sp := Pr (ι := Nat × Nat) (fun i => [nv i.1, nv i.2]) (fun i _ => 1 ≤ i.2 ∧ i.2 ≤ 64) (fun i => GL (FwOps.shows i.2 i.1))
theorem has_shown (T : Top K mg) : Has P w K mg base 3 "shown" ["number", "width"] spShown := by
  refine has_of d_shown T.f_shown T.g_shown sc_shown (fun _ _ _ _ _ _ us hl => match us, hl with | [_, _], _ => rfl) (pr_len fun _ => rfl) fun cdv A outer s H vs Q E hr h => ?_
  obtain ⟨⟨n, m⟩, rfl, ⟨h1, h2⟩, q⟩ := h
  have h1 : 1 ≤ m := h1
  refine r_ret (x_flags (l := FwOps.shows m n) (fa_cons (x_flag (xgn 6 T.g_ZERO) (eqN (xv 0) (xn 0))) (fa_cons (x_flag (xgn 7 T.g_SIGN) (eqN (c_bit T hr (xv 0) (subN (xv 1) (xn 1) h1)) (xn 1))) (fa_cons (x_flag (xgn 2 T.g_PARITY) (x_pv (has_is_even T) (hr.mono (by decide)) n (a1 (xv 0)) fun _ _ => trivial)) fa_nil))) (show 3 ≤ 1000 by decide)) q
end
section
variable {X : Cx} {σ : St} {H : Hp} {e1 e2 : Expr} {p1 pos : Pos}
theorem c_shown {k n m : Nat} (T : Top X.K X.mg) (hr : Room k X.A) (h1 : Is X σ H e1 (nv n)) (h2 : Is X σ H e2 (nv m)) (hm : 1 ≤ m) (hm2 : m ≤ 64) (hk : 3 ≤ k := by decide) (hg : Gl X "shown" := by rfl)
    (s1 : starEach [e1, e2] X.env = (false, eval e1 X.env) :: starEach [e2] X.env := by rfl) (s2 : starEach [e2] X.env = (false, eval e2 X.env) :: starEach [] X.env := by rfl) (hpl : (backTo pos (starEach [e2] X.env)).any (·.1) = false := by rfl) : Gets X σ H (.Call (.Name "shown" p1) [e1, e2] [] pos) (GL (FwOps.shows m n)) :=
  x_pr (has_shown T) (hr.mono hk) (n, m) (ac h1 (a1 h2 s2) s1) (fun _ _ => ⟨hm, hm2⟩) hg (by decide) s1 hpl
end
/-! ### the methods of Operands -/
def Wd (w : Nat) : Prop := w = 8 ∨ w = 16 ∨ w = 32 ∨ w = 64
theorem Wd.pos {w : Nat} (h : Wd w) : 1 ≤ w := by
  rcases h with h | h | h | h <;> omega
theorem Wd.le {w : Nat} (h : Wd w) : w ≤ 64 := by
  rcases h with h | h | h | h <;> omega
theorem Wd.ge {w : Nat} (h : Wd w) : 8 ≤ w := by
  rcases h with h | h | h | h <;> omega
structure Good (o : On) : Prop where
  w : Wd o.w
  a : o.a < 2 ^ o.w
  b : o.b < 2 ^ o.w
  c : o.c < 2 ^ o.w
def kOf (f : Nat) : Nat := if FwOps.bitAt f FwOps.CARRY = true then 1 else 0
section
variable {P : Program} {w : World} {K : PySem.W.Frag} {mg : Str → Option Value} {base : Heap}
abbrev spCarry (K : PySem.W.Frag) : Sp := Pv (ι := Addr × On) (fun i => [.ref i.1]) (fun i H => OnAt K i.2 i.1 H) (fun i => nv (kOf i.2.f))
theorem has_carry (T : Top K mg) : HasM P w K mg base 2 "Operands" "carry" ["self"] (spCarry K) := by
  refine hasM_of d_Operands_carry T.f_Operands_carry T.m_Operands_carry sc_Operands_carry (fun _ _ _ _ _ _ us hl => match us, hl with | [_], _ => rfl) (pv_len fun _ => rfl) fun cdv A outer s H vs Q E hr h => ?_
  obtain ⟨⟨p, o⟩, rfl, hon, q⟩ := h
  exact r_retV ((c_bit T hr (g_flags T hon (xv 0)) (xgn 0 T.g_CARRY)).to (congrArg nv (bit_if o.f 0))) q
abbrev spHalf (K : PySem.W.Frag) : Sp := Pv (ι := Addr × On) (fun i => [.ref i.1]) (fun i H => OnAt K i.2 i.1 H) (fun i => .bl (FwOps.bitAt i.2.f FwOps.HALF))
theorem has_has_half (T : Top K mg) : HasM P w K mg base 2 "Operands" "has_half" ["self"] (spHalf K) := by
  refine hasM_of d_Operands_has_half T.f_Operands_has_half T.m_Operands_has_half sc_Operands_has_half (fun _ _ _ _ _ _ us hl => match us, hl with | [_], _ => rfl) (pv_len fun _ => rfl) fun cdv A outer s H vs Q E hr h => ?_
  obtain ⟨⟨p, o⟩, rfl, hon, q⟩ := h
  exact r_retV (eqN (c_bit T hr (g_flags T hon (xv 0)) (xgn 4 T.g_HALF)) (xn 1)) q
abbrev spSigned (K : PySem.W.Frag) : Sp := Pv (ι := Addr × On × Nat) (fun i => [.ref i.1, nv i.2.2]) (fun i H => OnAt K i.2.1 i.1 H ∧ Wd i.2.1.w ∧ i.2.2 < 2 ^ 64) (fun i => .int (FwOps.signed i.2.1.w i.2.2))
theorem has_signed (T : Top K mg) : HasM P w K mg base 1 "Operands" "signed" ["self", "number"] (spSigned K) := by
  refine hasM_of d_Operands_signed T.f_Operands_signed T.m_Operands_signed sc_Operands_signed (fun _ _ _ _ _ _ us hl => match us, hl with | [_, _], _ => rfl) (pv_len fun _ => rfl) fun cdv A outer s H vs Q E hr h => ?_
  obtain ⟨⟨p, o, x⟩, rfl, ⟨hon, hw, hx⟩, q⟩ := h
  have q : ∀ H2, Ex H H2 → Q (.int (FwOps.signed o.w x)) H2 := q
  refine r_when (tltN (mulN (xn 2) (xv 1) (mul_ok (a := 2) (b := 64) (by decide) hx (by decide))) (g_bound T hon (xv 0))) (fun hk => ?_) fun hk => ?_
  · rw [signed_low hw.pos (of_decide_eq_true hk)] at q
    exact r_retV (xv 1) q
  · rw [signed_high hw.pos (of_decide_eq_false hk)] at q
    exact r_retV (subI (xv 1) (g_bound T hon (xv 0))) q
abbrev spTop (K : PySem.W.Frag) : Sp := Pv (ι := Addr × On × Nat) (fun i => [.ref i.1, nv i.2.2]) (fun i H => OnAt K i.2.1 i.1 H ∧ Wd i.2.1.w) (fun i => nv (i.2.2 / 2 ^ (i.2.1.w - 1) % 2))
theorem has_top (T : Top K mg) : HasM P w K mg base 2 "Operands" "top" ["self", "number"] (spTop K) := by
  refine hasM_of d_Operands_top T.f_Operands_top T.m_Operands_top sc_Operands_top (fun _ _ _ _ _ _ us hl => match us, hl with | [_, _], _ => rfl) (pv_len fun _ => rfl) fun cdv A outer s H vs Q E hr h => ?_
  obtain ⟨⟨p, o, x⟩, rfl, ⟨hon, hw⟩, q⟩ := h
  exact r_retV (c_bit T hr (xv 1) (subN (g_width T hon (xv 0)) (xn 1) hw.pos)) q
abbrev spShows (K : PySem.W.Frag) : Sp := Pr (ι := Addr × On × Nat) (fun i => [.ref i.1, nv i.2.2]) (fun i H => OnAt K i.2.1 i.1 H ∧ Wd i.2.1.w) (fun i => GL (FwOps.shows i.2.1.w i.2.2))
theorem has_shows (T : Top K mg) : HasM P w K mg base 4 "Operands" "shows" ["self", "number"] (spShows K) := by
  refine hasM_of d_Operands_shows T.f_Operands_shows T.m_Operands_shows sc_Operands_shows (fun _ _ _ _ _ _ us hl => match us, hl with | [_, _], _ => rfl) (pr_len fun _ => rfl) fun cdv A outer s H vs Q E hr h => ?_
  obtain ⟨⟨p, o, x⟩, rfl, ⟨hon, hw⟩, q⟩ := h
  exact r_ret (c_shown T hr (xv 1) (g_width T hon (xv 0)) hw.pos hw.le) q
end
section
variable {X : Cx} {σ : St} {H : Hp} {e e1 e2 : Expr} {p1 pos apos : Pos} {o : On} {p : Addr} {k x : Nat} {pl : Sem Bool}
theorem c_carry (T : Top X.K X.mg) (hr : Room k X.A) (h : OnAt X.K o p H) (he : Is X σ H e (.ref p)) (hk : 2 ≤ k := by decide)
    (ht : eval (.Call (.Attribute e "carry" apos) [] [] pos) X.env = (do
      let ov ← eval e X.env
      standAt apos.atName
      let (f, first) ← holding [ov] (getMethod ov "carry" pl)
      callWith pos f first (backTo pos (starEach [] X.env)) (backToKw pos (keywordEach [] X.env))) := by rfl) : Is X σ H (.Call (.Attribute e "carry" apos) [] [] pos) (nv (kOf o.f)) := by
  obtain ⟨dx, hd⟩ := _root_.id h
  exact Gets.is (x_meth0 (pl := pl) (has_carry T) (hr.mono hk) he hd T.c_Operands (on_meth o (by decide +kernel)) (fun H1 e1 Q q => ⟨(p, o), rfl, h.mono e1, fun H2 e2 => q _ H2 e2 rfl⟩) ht)
theorem c_half (T : Top X.K X.mg) (hr : Room k X.A) (h : OnAt X.K o p H) (he : Is X σ H e (.ref p)) (hk : 2 ≤ k := by decide)
    (ht : eval (.Call (.Attribute e "has_half" apos) [] [] pos) X.env = (do
      let ov ← eval e X.env
      standAt apos.atName
      let (f, first) ← holding [ov] (getMethod ov "has_half" pl)
      callWith pos f first (backTo pos (starEach [] X.env)) (backToKw pos (keywordEach [] X.env))) := by rfl) : Is X σ H (.Call (.Attribute e "has_half" apos) [] [] pos) (.bl (FwOps.bitAt o.f FwOps.HALF)) := by
  obtain ⟨dx, hd⟩ := _root_.id h
  exact Gets.is (x_meth0 (pl := pl) (has_has_half T) (hr.mono hk) he hd T.c_Operands (on_meth o (by decide +kernel)) (fun H1 e1 Q q => ⟨(p, o), rfl, h.mono e1, fun H2 e2 => q _ H2 e2 rfl⟩) ht)
theorem c_signed (T : Top X.K X.mg) (hr : Room k X.A) (h : OnAt X.K o p H) (hw : Wd o.w) (hx : x < 2 ^ o.w) (he : Is X σ H e (.ref p)) (h1 : Is X σ H e1 (nv x)) (hk : 1 ≤ k := by decide)
    (hst : starEach [e1] X.env = (false, eval e1 X.env) :: starEach [] X.env := by rfl) (hpl : (backTo pos (starEach [] X.env)).any (·.1) = false := by rfl)
    (ht : eval (.Call (.Attribute e "signed" apos) [e1] [] pos) X.env = (do
      let ov ← eval e X.env
      standAt apos.atName
      let (f, first) ← holding [ov] (getMethod ov "signed" pl)
      callWith pos f first (backTo pos (starEach [e1] X.env)) (backToKw pos (keywordEach [] X.env))) := by rfl) : Is X σ H (.Call (.Attribute e "signed" apos) [e1] [] pos) (.int (FwOps.signed o.w x)) := by
  obtain ⟨dx, hd⟩ := _root_.id h
  exact Gets.is (x_meth (pl := pl) (has_signed T) (hr.mono hk) he hd T.c_Operands (on_meth o (by decide +kernel)) (a1 h1 hst) (fun H1 e1 Q q => ⟨(p, o, x), rfl, ⟨h.mono e1, hw, Nat.lt_of_lt_of_le hx (Nat.pow_le_pow_right (by decide) hw.le)⟩, fun H2 e2 => q _ H2 e2 rfl⟩) hst hpl ht)
theorem c_top (T : Top X.K X.mg) (hr : Room k X.A) (h : OnAt X.K o p H) (hw : Wd o.w) (he : Is X σ H e (.ref p)) (h1 : Is X σ H e1 (nv x)) (hk : 2 ≤ k := by decide)
    (hst : starEach [e1] X.env = (false, eval e1 X.env) :: starEach [] X.env := by rfl) (hpl : (backTo pos (starEach [] X.env)).any (·.1) = false := by rfl)
    (ht : eval (.Call (.Attribute e "top" apos) [e1] [] pos) X.env = (do
      let ov ← eval e X.env
      standAt apos.atName
      let (f, first) ← holding [ov] (getMethod ov "top" pl)
      callWith pos f first (backTo pos (starEach [e1] X.env)) (backToKw pos (keywordEach [] X.env))) := by rfl) : Is X σ H (.Call (.Attribute e "top" apos) [e1] [] pos) (nv (x / 2 ^ (o.w - 1) % 2)) := by
  obtain ⟨dx, hd⟩ := _root_.id h
  exact Gets.is (x_meth (pl := pl) (has_top T) (hr.mono hk) he hd T.c_Operands (on_meth o (by decide +kernel)) (a1 h1 hst) (fun H1 e1 Q q => ⟨(p, o, x), rfl, ⟨h.mono e1, hw⟩, fun H2 e2 => q _ H2 e2 rfl⟩) hst hpl ht)
theorem c_shows (T : Top X.K X.mg) (hr : Room k X.A) (h : OnAt X.K o p H) (hw : Wd o.w) (he : Is X σ H e (.ref p)) (h1 : Is X σ H e1 (nv x)) (hk : 4 ≤ k := by decide)
    (hst : starEach [e1] X.env = (false, eval e1 X.env) :: starEach [] X.env := by rfl) (hpl : (backTo pos (starEach [] X.env)).any (·.1) = false := by rfl)
    (ht : eval (.Call (.Attribute e "shows" apos) [e1] [] pos) X.env = (do
      let ov ← eval e X.env
      standAt apos.atName
      let (f, first) ← holding [ov] (getMethod ov "shows" pl)
      callWith pos f first (backTo pos (starEach [e1] X.env)) (backToKw pos (keywordEach [] X.env))) := by rfl) : Gets X σ H (.Call (.Attribute e "shows" apos) [e1] [] pos) (GL (FwOps.shows o.w x)) := by
  obtain ⟨dx, hd⟩ := _root_.id h
  exact x_meth (pl := pl) (has_shows T) (hr.mono hk) he hd T.c_Operands (on_meth o (by decide +kernel)) (a1 h1 hst) (fun H1 e1 Q q => ⟨(p, o, x), rfl, ⟨h.mono e1, hw⟩, q⟩) hst hpl ht
end
/-! ### sums.py -/
section
variable {P : Program} {w : World} {K : PySem.W.Frag} {mg : Str → Option Value} {base : Heap}
structure Two (o : On) (x y k : Nat) : Prop where
  w : Wd o.w
  x : x < 2 ^ o.w
  y : y < 2 ^ o.w
abbrev spSum (K : PySem.W.Frag) : Sp := Pr (ι := Addr × On × Nat × Nat × Nat) (fun i => [.ref i.1, nv i.2.2.1, nv i.2.2.2.1, nv i.2.2.2.2]) (fun i H => OnAt K i.2.1 i.1 H ∧ Two i.2.1 i.2.2.1 i.2.2.2.1 i.2.2.2.2)
  (fun i => Duo (FwOps.sum i.2.1.w i.2.2.1 i.2.2.2.1 i.2.2.2.2) (FwOps.sumFlags i.2.1.w i.2.2.1 i.2.2.2.1 i.2.2.2.2))
theorem has_sum_of (T : Top K mg) : Has P w K mg base 5 "sum_of" ["on", "one", "other", "more"] (spSum K) := by
  refine has_of d_sum_of T.f_sum_of T.g_sum_of sc_sum_of (fun _ _ _ _ _ _ us hl => match us, hl with | [_, _, _, _], _ => rfl) (pr_len fun _ => rfl) fun cdv A outer s H vs Q E hr h => ?_
  obtain ⟨⟨p, o, x, y, k⟩, rfl, ⟨hon, g⟩, q⟩ := h
  have g : Two o x y k := g
  have hl := Nat.mod_lt (x + y + k) (two_pos o.w)
  refine r_set 4 (addN (addN (xv 1) (xv 2)) (xv 3)) ?_ sc_sum_of.nd
  refine r_set 5 (modN (xv 4) (g_bound T hon (xv 0)) (two_pos _)) ?_ sc_sum_of.nd
  refine r_set 6 (geN (addN (addN (modN (xv 1) (xn 16) (by decide)) (modN (xv 2) (xn 16) (by decide))) (xv 3)) (xn 16)) ?_ sc_sum_of.nd
  refine r_set 7 (neI (addI (addI (c_signed T hr hon g.w g.x (xv 0) (xv 1)) (c_signed T hr hon g.w g.y (xv 0) (xv 2))) (xv 3)) (c_signed T hr hon g.w hl (xv 0) (xv 5))) ?_ sc_sum_of.nd
  exact r_ret (x_duo (lo := FwOps.sum o.w x y k) (xv 5) (x_cat (l := FwOps.shows o.w (FwOps.sum o.w x y k)) (c_shows T hr hon g.w (xv 0) (xv 5)) (x_flags (fa_cons (x_flag (xgn 0 T.g_CARRY) (geN (xv 4) (g_bound T hon (xv 0)))) (fa_cons (x_flag (xgn 4 T.g_HALF) (xv 6)) (fa_cons (x_flag (xgn 11 T.g_OVER) (xv 7)) fa_nil))) (show 3 ≤ 1000 by decide)) (show 3 + 3 ≤ 1000 by decide))) q
abbrev spLess (K : PySem.W.Frag) : Sp := Pr (ι := Addr × On × Nat × Nat × Nat) (fun i => [.ref i.1, nv i.2.2.1, nv i.2.2.2.1, nv i.2.2.2.2]) (fun i H => OnAt K i.2.1 i.1 H ∧ Two i.2.1 i.2.2.1 i.2.2.2.1 i.2.2.2.2)
  (fun i => Duo (FwOps.less i.2.1.w i.2.2.1 i.2.2.2.1 i.2.2.2.2) (FwOps.lessFlags i.2.1.w i.2.2.1 i.2.2.2.1 i.2.2.2.2))
theorem has_less_of (T : Top K mg) : Has P w K mg base 5 "less_of" ["on", "one", "other", "more"] (spLess K) := by
  refine has_of d_less_of T.f_less_of T.g_less_of sc_less_of (fun _ _ _ _ _ _ us hl => match us, hl with | [_, _, _, _], _ => rfl) (pr_len fun _ => rfl) fun cdv A outer s H vs Q E hr h => ?_
  obtain ⟨⟨p, o, x, y, k⟩, rfl, ⟨hon, g⟩, q⟩ := h
  have g : Two o x y k := g
  have hl := less_lt o.w x y k
  refine r_set 4 ((modI (subI (subI (xv 1) (xv 2)) (xv 3)) (g_bound T hon (xv 0)) (by have := two_pos o.w; omega)).to (congrArg V.int (less_is o.w x y k))) ?_ sc_less_of.nd
  refine r_set 5 (ltN (modN (xv 1) (xn 16) (by decide)) (addN (modN (xv 2) (xn 16) (by decide)) (xv 3))) ?_ sc_less_of.nd
  refine r_set 6 (neI (subI (subI (c_signed T hr hon g.w g.x (xv 0) (xv 1)) (c_signed T hr hon g.w g.y (xv 0) (xv 2))) (xv 3)) (c_signed T hr hon g.w hl (xv 0) (xv 4))) ?_ sc_less_of.nd
  exact r_ret (x_duo (lo := FwOps.less o.w x y k) (xv 4) (x_cat (l := FwOps.shows o.w (FwOps.less o.w x y k)) (c_shows T hr hon g.w (xv 0) (xv 4)) (x_flags (fa_cons (x_flag (xgn 0 T.g_CARRY) (ltN (xv 1) (addN (xv 2) (xv 3)))) (fa_cons (x_flag (xgn 4 T.g_HALF) (xv 5)) (fa_cons (x_flag (xgn 11 T.g_OVER) (xv 6)) fa_nil))) (show 3 ≤ 1000 by decide)) (show 3 + 3 ≤ 1000 by decide))) q
abbrev spBut : Sp := Pr (ι := Addr × List Giv) (fun i => [.ref i.1]) (fun i H => FlAt i.2 i.1 H ∧ i.2.length ≤ 1000) (fun i => GL (FwOps.butCarry i.2))
theorem has_but_carry (T : Top K mg) : Has P w K mg base 1 "but_carry" ["given"] spBut := by
  refine has_of d_but_carry T.f_but_carry T.g_but_carry sc_but_carry (fun _ _ _ _ _ _ us hl => match us, hl with | [_], _ => rfl) (pr_len fun _ => rfl) fun cdv A outer s H vs Q E hr h => ?_
  obtain ⟨⟨p, l⟩, rfl, ⟨hg, hz⟩, q⟩ := h
  refine r_ret (x_lcF (l := l) (j := 1) (own := [("flag", 1)]) (fun g => g.1 != FwOps.CARRY) (xv 0) hg hz sc_but_carry.nd (blkOk_by (N := ["given", "flag"]) (sc := d_but_carry.scope) (by decide +kernel)) ?_ ?_ ?_) q
  · intro i f t H1 e1 hf hft s0 H0 C cl fp
    obtain ⟨a, rfl, ha⟩ := hft
    refine (tneN (x_ixT (xv 1) (SqT.of ha) (xn 0) rfl) (xgn 0 T.g_CARRY)).to ?_
    by_cases h : f.1 = 0
    · rw [h] <;> rfl
    · rw [decide_eq_true h]
      exact (bne_iff_ne.mpr h).symm
  · intro t H1 s0 H0 C cl fp
    exact xv 1
  · exact fun _ _ _ _ _ => pg_name sc_but_carry.nd rfl (Or.inl rfl)
/-- what an operation that never refuses gives -/
abbrev spOp (K : PySem.W.Frag) (res : On → Nat × Nat × List Giv) : Sp := Pr (ι := Addr × On) (fun i => [.ref i.1]) (fun i H => OnAt K i.2 i.1 H ∧ Good i.2) (fun i => Res (res i.2).1 (res i.2).2.1 (res i.2).2.2)
end
section
variable {X : Cx} {σ : St} {H : Hp} {e1 e2 e3 e4 : Expr} {p1 pos : Pos} {o : On} {p : Addr} {k x y m : Nat}
theorem c_sum (T : Top X.K X.mg) (hr : Room k X.A) (h : OnAt X.K o p H) (g : Two o x y m) (h1 : Is X σ H e1 (.ref p)) (h2 : Is X σ H e2 (nv x)) (h3 : Is X σ H e3 (nv y)) (h4 : Is X σ H e4 (nv m)) (hk : 5 ≤ k := by decide) (hg : Gl X "sum_of" := by rfl)
    (s1 : starEach [e1, e2, e3, e4] X.env = (false, eval e1 X.env) :: starEach [e2, e3, e4] X.env := by rfl) (s2 : starEach [e2, e3, e4] X.env = (false, eval e2 X.env) :: starEach [e3, e4] X.env := by rfl) (s3 : starEach [e3, e4] X.env = (false, eval e3 X.env) :: starEach [e4] X.env := by rfl) (s4 : starEach [e4] X.env = (false, eval e4 X.env) :: starEach [] X.env := by rfl)
    (hpl : (backTo pos (starEach [e2, e3, e4] X.env)).any (·.1) = false := by rfl) : Gets X σ H (.Call (.Name "sum_of" p1) [e1, e2, e3, e4] [] pos) (Duo (FwOps.sum o.w x y m) (FwOps.sumFlags o.w x y m)) :=
  x_pr (has_sum_of T) (hr.mono hk) (p, o, x, y, m) (ac h1 (ac h2 (ac h3 (a1 h4 s4) s3) s2) s1) (fun H1 e1 => ⟨h.mono e1, g⟩) hg (by decide) s1 hpl
theorem c_less (T : Top X.K X.mg) (hr : Room k X.A) (h : OnAt X.K o p H) (g : Two o x y m) (h1 : Is X σ H e1 (.ref p)) (h2 : Is X σ H e2 (nv x)) (h3 : Is X σ H e3 (nv y)) (h4 : Is X σ H e4 (nv m)) (hk : 5 ≤ k := by decide) (hg : Gl X "less_of" := by rfl)
    (s1 : starEach [e1, e2, e3, e4] X.env = (false, eval e1 X.env) :: starEach [e2, e3, e4] X.env := by rfl) (s2 : starEach [e2, e3, e4] X.env = (false, eval e2 X.env) :: starEach [e3, e4] X.env := by rfl) (s3 : starEach [e3, e4] X.env = (false, eval e3 X.env) :: starEach [e4] X.env := by rfl) (s4 : starEach [e4] X.env = (false, eval e4 X.env) :: starEach [] X.env := by rfl)
    (hpl : (backTo pos (starEach [e2, e3, e4] X.env)).any (·.1) = false := by rfl) : Gets X σ H (.Call (.Name "less_of" p1) [e1, e2, e3, e4] [] pos) (Duo (FwOps.less o.w x y m) (FwOps.lessFlags o.w x y m)) :=
  x_pr (has_less_of T) (hr.mono hk) (p, o, x, y, m) (ac h1 (ac h2 (ac h3 (a1 h4 s4) s3) s2) s1) (fun H1 e1 => ⟨h.mono e1, g⟩) hg (by decide) s1 hpl
/-- a name of flags -/
theorem x_vF {l : List Giv} {g : Addr} (h : Is X σ H e1 (.ref g)) (hg : FlAt l g H) : Gets X σ H e1 (GL l) := h.gets.imp fun v H1 e hv => ⟨g, hv, hg.mono e⟩
theorem c_but {l : List Giv} {g : Addr} (T : Top X.K X.mg) (hr : Room k X.A) (h1 : Is X σ H e1 (.ref g)) (hf : FlAt l g H) (hz : l.length ≤ 1000) (hk : 1 ≤ k := by decide) (hg : Gl X "but_carry" := by rfl)
    (s1 : starEach [e1] X.env = (false, eval e1 X.env) :: starEach [] X.env := by rfl) (hpl : (backTo pos (starEach [] X.env)).any (·.1) = false := by rfl) : Gets X σ H (.Call (.Name "but_carry" p1) [e1] [] pos) (GL (FwOps.butCarry l)) :=
  x_pr (has_but_carry T) (hr.mono hk) (g, l) (a1 h1 s1) (fun H1 e1 => ⟨hf.mono e1, hz⟩) hg (by decide) s1 hpl
end
section
variable {P : Program} {w : World} {K : PySem.W.Frag} {mg : Str → Option Value} {base : Heap}
theorem Wd.one {o : On} (h : Wd o.w) : 1 < 2 ^ o.w := by
  rcases h with h | h | h | h <;> rw [h] <;> decide
theorem has_add (T : Top K mg) : Has P w K mg base 6 "add" ["on"] (spOp K fun o => (FwOps.sum o.w o.a o.b 0, 0, FwOps.sumFlags o.w o.a o.b 0)) := by
  refine has_of d_add T.f_add T.g_add sc_add (fun _ _ _ _ _ _ us hl => match us, hl with | [_], _ => rfl) (pr_len fun _ => rfl) fun cdv A outer s H vs Q E hr h => ?_
  obtain ⟨⟨p, o⟩, rfl, ⟨hon, g⟩, q⟩ := h
  refine r_duo 1 2 (c_sum (m := 0) T hr hon ⟨g.w, g.a, g.b⟩ (xv 0) (g_a T hon (xv 0)) (g_b T hon (xv 0)) (xn 0)) (fun gl H1 e1 hf => ?_) sc_add.nd
  exact r_ret (x_res (xv 1) (xn 0) (x_vF (xv 2) hf)) fun v H2 e2 h => q v H2 (e1.trans e2) h
theorem has_add_carry (T : Top K mg) : Has P w K mg base 6 "add_carry" ["on"] (spOp K fun o => (FwOps.sum o.w o.a o.b (kOf o.f), 0, FwOps.sumFlags o.w o.a o.b (kOf o.f))) := by
  refine has_of d_add_carry T.f_add_carry T.g_add_carry sc_add_carry (fun _ _ _ _ _ _ us hl => match us, hl with | [_], _ => rfl) (pr_len fun _ => rfl) fun cdv A outer s H vs Q E hr h => ?_
  obtain ⟨⟨p, o⟩, rfl, ⟨hon, g⟩, q⟩ := h
  refine r_duo 1 2 (c_sum T hr hon ⟨g.w, g.a, g.b⟩ (xv 0) (g_a T hon (xv 0)) (g_b T hon (xv 0)) (c_carry T hr hon (xv 0))) (fun gl H1 e1 hf => ?_) sc_add_carry.nd
  exact r_ret (x_res (xv 1) (xn 0) (x_vF (xv 2) hf)) fun v H2 e2 h => q v H2 (e1.trans e2) h
theorem has_subtract (T : Top K mg) : Has P w K mg base 6 "subtract" ["on"] (spOp K fun o => (FwOps.less o.w o.a o.b 0, 0, FwOps.lessFlags o.w o.a o.b 0)) := by
  refine has_of d_subtract T.f_subtract T.g_subtract sc_subtract (fun _ _ _ _ _ _ us hl => match us, hl with | [_], _ => rfl) (pr_len fun _ => rfl) fun cdv A outer s H vs Q E hr h => ?_
  obtain ⟨⟨p, o⟩, rfl, ⟨hon, g⟩, q⟩ := h
  refine r_duo 1 2 (c_less (m := 0) T hr hon ⟨g.w, g.a, g.b⟩ (xv 0) (g_a T hon (xv 0)) (g_b T hon (xv 0)) (xn 0)) (fun gl H1 e1 hf => ?_) sc_subtract.nd
  exact r_ret (x_res (xv 1) (xn 0) (x_vF (xv 2) hf)) fun v H2 e2 h => q v H2 (e1.trans e2) h
theorem has_subtract_borrow (T : Top K mg) : Has P w K mg base 6 "subtract_borrow" ["on"] (spOp K fun o => (FwOps.less o.w o.a o.b (kOf o.f), 0, FwOps.lessFlags o.w o.a o.b (kOf o.f))) := by
  refine has_of d_subtract_borrow T.f_subtract_borrow T.g_subtract_borrow sc_subtract_borrow (fun _ _ _ _ _ _ us hl => match us, hl with | [_], _ => rfl) (pr_len fun _ => rfl) fun cdv A outer s H vs Q E hr h => ?_
  obtain ⟨⟨p, o⟩, rfl, ⟨hon, g⟩, q⟩ := h
  refine r_duo 1 2 (c_less T hr hon ⟨g.w, g.a, g.b⟩ (xv 0) (g_a T hon (xv 0)) (g_b T hon (xv 0)) (c_carry T hr hon (xv 0))) (fun gl H1 e1 hf => ?_) sc_subtract_borrow.nd
  exact r_ret (x_res (xv 1) (xn 0) (x_vF (xv 2) hf)) fun v H2 e2 h => q v H2 (e1.trans e2) h
theorem has_compare (T : Top K mg) : Has P w K mg base 6 "compare" ["on"] (spOp K fun o => (o.a, 0, FwOps.lessFlags o.w o.a o.b 0)) := by
  refine has_of d_compare T.f_compare T.g_compare sc_compare (fun _ _ _ _ _ _ us hl => match us, hl with | [_], _ => rfl) (pr_len fun _ => rfl) fun cdv A outer s H vs Q E hr h => ?_
  obtain ⟨⟨p, o⟩, rfl, ⟨hon, g⟩, q⟩ := h
  exact r_ret (x_res (g_a T hon (xv 0)) (xn 0) (x_ixDuo (c_less (m := 0) T hr hon ⟨g.w, g.a, g.b⟩ (xv 0) (g_a T hon (xv 0)) (g_b T hon (xv 0)) (xn 0)) fun _ => xn 1)) q
theorem has_contrary (T : Top K mg) : Has P w K mg base 6 "contrary" ["on"] (spOp K fun o => (FwOps.less o.w 0 o.a 0, 0, FwOps.lessFlags o.w 0 o.a 0)) := by
  refine has_of d_contrary T.f_contrary T.g_contrary sc_contrary (fun _ _ _ _ _ _ us hl => match us, hl with | [_], _ => rfl) (pr_len fun _ => rfl) fun cdv A outer s H vs Q E hr h => ?_
  obtain ⟨⟨p, o⟩, rfl, ⟨hon, g⟩, q⟩ := h
  refine r_duo 1 2 (c_less (m := 0) (x := 0) T hr hon ⟨g.w, two_pos _, g.a⟩ (xv 0) (xn 0) (g_a T hon (xv 0)) (xn 0)) (fun gl H1 e1 hf => ?_) sc_contrary.nd
  exact r_ret (x_res (xv 1) (xn 0) (x_vF (xv 2) hf)) fun v H2 e2 h => q v H2 (e1.trans e2) h
theorem has_one_on (T : Top K mg) : Has P w K mg base 6 "one_on" ["on"] (spOp K fun o => (FwOps.sum o.w o.a 1 0, 0, FwOps.butCarry (FwOps.sumFlags o.w o.a 1 0))) := by
  refine has_of d_one_on T.f_one_on T.g_one_on sc_one_on (fun _ _ _ _ _ _ us hl => match us, hl with | [_], _ => rfl) (pr_len fun _ => rfl) fun cdv A outer s H vs Q E hr h => ?_
  obtain ⟨⟨p, o⟩, rfl, ⟨hon, g⟩, q⟩ := h
  refine r_duo 1 2 (c_sum (m := 0) (y := 1) T hr hon ⟨g.w, g.a, Wd.one g.w⟩ (xv 0) (g_a T hon (xv 0)) (xn 1) (xn 0)) (fun gl H1 e1 hf => ?_) sc_one_on.nd
  exact r_ret (x_res (xv 1) (xn 0) (c_but T hr (xv 2) hf (show 6 ≤ 1000 by decide))) fun v H2 e2 h => q v H2 (e1.trans e2) h
theorem has_one_back (T : Top K mg) : Has P w K mg base 6 "one_back" ["on"] (spOp K fun o => (FwOps.less o.w o.a 1 0, 0, FwOps.butCarry (FwOps.lessFlags o.w o.a 1 0))) := by
  refine has_of d_one_back T.f_one_back T.g_one_back sc_one_back (fun _ _ _ _ _ _ us hl => match us, hl with | [_], _ => rfl) (pr_len fun _ => rfl) fun cdv A outer s H vs Q E hr h => ?_
  obtain ⟨⟨p, o⟩, rfl, ⟨hon, g⟩, q⟩ := h
  refine r_duo 1 2 (c_less (m := 0) (y := 1) T hr hon ⟨g.w, g.a, Wd.one g.w⟩ (xv 0) (g_a T hon (xv 0)) (xn 1) (xn 0)) (fun gl H1 e1 hf => ?_) sc_one_back.nd
  exact r_ret (x_res (xv 1) (xn 0) (c_but T hr (xv 2) hf (show 6 ≤ 1000 by decide))) fun v H2 e2 h => q v H2 (e1.trans e2) h
theorem has_exchange_add (T : Top K mg) : Has P w K mg base 6 "exchange_add" ["on"] (spOp K fun o => (FwOps.sum o.w o.a o.b 0, o.a, FwOps.sumFlags o.w o.a o.b 0)) := by
  refine has_of d_exchange_add T.f_exchange_add T.g_exchange_add sc_exchange_add (fun _ _ _ _ _ _ us hl => match us, hl with | [_], _ => rfl) (pr_len fun _ => rfl) fun cdv A outer s H vs Q E hr h => ?_
  obtain ⟨⟨p, o⟩, rfl, ⟨hon, g⟩, q⟩ := h
  refine r_duo 1 2 (c_sum (m := 0) T hr hon ⟨g.w, g.a, g.b⟩ (xv 0) (g_a T hon (xv 0)) (g_b T hon (xv 0)) (xn 0)) (fun gl H1 e1 hf => ?_) sc_exchange_add.nd
  exact r_ret (x_res (xv 1) (g_a T (hon.mono e1) (xv 0)) (x_vF (xv 2) hf)) fun v H2 e2 h => q v H2 (e1.trans e2) h
theorem has_compare_exchange (T : Top K mg) : Has P w K mg base 6 "compare_exchange" ["on"] (spOp K fun o => (if o.c = o.a then o.b else o.a, o.a, FwOps.lessFlags o.w o.c o.a 0)) := by
  refine has_of d_compare_exchange T.f_compare_exchange T.g_compare_exchange sc_compare_exchange (fun _ _ _ _ _ _ us hl => match us, hl with | [_], _ => rfl) (pr_len fun _ => rfl) fun cdv A outer s H vs Q E hr h => ?_
  obtain ⟨⟨p, o⟩, rfl, ⟨hon, g⟩, q⟩ := h
  refine r_set 1 (v := nv (if o.c = o.a then o.b else o.a)) (x_ifE (teqN (g_c T hon (xv 0)) (g_a T hon (xv 0))) (fun hk => ?_) fun hk => ?_) ?_ sc_compare_exchange.nd
  · rw [if_pos (of_decide_eq_true hk)]
    exact g_b T hon (xv 0)
  · rw [if_neg (of_decide_eq_false hk)]
    exact g_a T hon (xv 0)
  · exact r_ret (x_res (xv 1) (g_a T hon (xv 0)) (x_ixDuo (c_less (m := 0) T hr hon ⟨g.w, g.c, g.a⟩ (xv 0) (g_c T hon (xv 0)) (g_a T hon (xv 0)) (xn 0)) fun _ => xn 1)) q
end
/-! ### bitwise.py -/
theorem and_nn (a b : Nat) : Builtin.bitAnd (a : Int) (b : Int) = ((a &&& b : Nat) : Int) := by
  unfold Builtin.bitAnd
  rw [decide_eq_true (Int.natCast_nonneg a), decide_eq_true (Int.natCast_nonneg b)]
  rfl
theorem or_nn {w a b : Nat} (ha : a < 2 ^ w) (hb : b < 2 ^ w) : Builtin.bitOr (a : Int) (b : Int) = ((FwOps.bits w (fun x y => x || y) a b : Nat) : Int) := by
  rw [bitOr_and, and_nn, or_bits ha hb]
theorem xor_nn {w a b : Nat} (ha : a < 2 ^ w) (hb : b < 2 ^ w) : Builtin.bitXor (a : Int) (b : Int) = ((FwOps.bits w (fun x y => x != y) a b : Nat) : Int) := by
  rw [bitXor_and, and_nn, xor_bits ha hb]
theorem neg_and {w b : Nat} (h0 : 0 < b) (h : b < 2 ^ w) : Builtin.bitAnd (b : Int) (0 - (b : Int)) = ((2 ^ FwOps.lowest w b : Nat) : Int) := by
  have e : (Builtin.bitNot (0 - (b : Int))).toNat = b - 1 := by
    show (-(0 - (b : Int)) - 1).toNat = b - 1
    omega
  have hn : ¬ (0 : Int) ≤ 0 - (b : Int) := by omega
  unfold Builtin.bitAnd
  rw [decide_eq_true (Int.natCast_nonneg b), decide_eq_false hn]
  show (b : Int) - (((b : Int).toNat &&& (Builtin.bitNot (0 - (b : Int))).toNat : Nat) : Int) = _
  rw [e, Int.toNat_natCast, low_alone h0 h]
theorem bits_pow (m : Nat) : Builtin.Int.intBits ((2 ^ m : Nat) : Int) = m + 1 := by
  have hp := two_pos m
  unfold Builtin.Int.intBits
  rw [if_neg (by simp only [beq_iff_eq]; omega), Int.natAbs_natCast, Nat.log2_two_pow]
theorem bits_log {b : Nat} (h : 0 < b) : Builtin.Int.intBits (b : Int) = b.log2 + 1 := by
  unfold Builtin.Int.intBits
  rw [if_neg (by simp only [beq_iff_eq]; omega), Int.natAbs_natCast]
section
variable {P : Program} {w : World} {K : PySem.W.Frag} {mg : Str → Option Value} {base : Heap}
def plainFlags (w low : Nat) : List Giv := FwOps.shows w low ++ [(FwOps.CARRY, false), (FwOps.OVER, false)]
abbrev spPlain (K : PySem.W.Frag) : Sp := Pr (ι := Addr × On × Nat) (fun i => [.ref i.1, nv i.2.2]) (fun i H => OnAt K i.2.1 i.1 H ∧ Wd i.2.1.w) (fun i => Res i.2.2 0 (plainFlags i.2.1.w i.2.2))
theorem has_plain (T : Top K mg) : Has P w K mg base 5 "plain" ["on", "low"] (spPlain K) := by
  refine has_of d_plain T.f_plain T.g_plain sc_plain (fun _ _ _ _ _ _ us hl => match us, hl with | [_, _], _ => rfl) (pr_len fun _ => rfl) fun cdv A outer s H vs Q E hr h => ?_
  obtain ⟨⟨p, o, x⟩, rfl, ⟨hon, hw⟩, q⟩ := h
  exact r_ret (x_res (xv 1) (xn 0) (x_cat (l := FwOps.shows o.w x) (c_shows T hr hon hw (xv 0) (xv 1)) (x_flags (fa_cons (x_flag (xgn 0 T.g_CARRY) xb) (fa_cons (x_flag (xgn 11 T.g_OVER) xb) fa_nil)) (show 2 ≤ 1000 by decide)) (show 3 + 2 ≤ 1000 by decide))) q
abbrev spTold (K : PySem.W.Frag) : Sp := Pr (ι := Addr × On × Nat) (fun i => [.ref i.1, nv i.2.2]) (fun i H => OnAt K i.2.1 i.1 H ∧ Wd i.2.1.w) (fun i => Res i.2.2 0 [(FwOps.CARRY, FwOps.bitAt i.2.1.a (i.2.1.b % i.2.1.w))])
theorem has_bit_told (T : Top K mg) : Has P w K mg base 2 "bit_told" ["on", "low"] (spTold K) := by
  refine has_of d_bit_told T.f_bit_told T.g_bit_told sc_bit_told (fun _ _ _ _ _ _ us hl => match us, hl with | [_, _], _ => rfl) (pr_len fun _ => rfl) fun cdv A outer s H vs Q E hr h => ?_
  obtain ⟨⟨p, o, x⟩, rfl, ⟨hon, hw⟩, q⟩ := h
  exact r_ret (x_res (xv 1) (xn 0) (x_flags (fa_cons (x_flag (xgn 0 T.g_CARRY) (eqN (c_bit T hr (g_a T hon (xv 0)) (modN (g_b T hon (xv 0)) (g_width T hon (xv 0)) (show 0 < o.w from hw.pos))) (xn 1))) fa_nil) (show 1 ≤ 1000 by decide))) q
end
section
variable {X : Cx} {σ : St} {H : Hp} {e1 e2 e3 : Expr} {p1 pos : Pos} {o : On} {p : Addr} {k x n m : Nat} {v : Bool}
theorem c_plain (T : Top X.K X.mg) (hr : Room k X.A) (h : OnAt X.K o p H) (hw : Wd o.w) (h1 : Is X σ H e1 (.ref p)) (h2 : Is X σ H e2 (nv x)) (hk : 5 ≤ k := by decide) (hg : Gl X "plain" := by rfl)
    (s1 : starEach [e1, e2] X.env = (false, eval e1 X.env) :: starEach [e2] X.env := by rfl) (s2 : starEach [e2] X.env = (false, eval e2 X.env) :: starEach [] X.env := by rfl) (hpl : (backTo pos (starEach [e2] X.env)).any (·.1) = false := by rfl) : Gets X σ H (.Call (.Name "plain" p1) [e1, e2] [] pos) (Res x 0 (plainFlags o.w x)) :=
  x_pr (has_plain T) (hr.mono hk) (p, o, x) (ac h1 (a1 h2 s2) s1) (fun H1 e1 => ⟨h.mono e1, hw⟩) hg (by decide) s1 hpl
theorem c_told (T : Top X.K X.mg) (hr : Room k X.A) (h : OnAt X.K o p H) (hw : Wd o.w) (h1 : Is X σ H e1 (.ref p)) (h2 : Is X σ H e2 (nv x)) (hk : 2 ≤ k := by decide) (hg : Gl X "bit_told" := by rfl)
    (s1 : starEach [e1, e2] X.env = (false, eval e1 X.env) :: starEach [e2] X.env := by rfl) (s2 : starEach [e2] X.env = (false, eval e2 X.env) :: starEach [] X.env := by rfl) (hpl : (backTo pos (starEach [e2] X.env)).any (·.1) = false := by rfl) : Gets X σ H (.Call (.Name "bit_told" p1) [e1, e2] [] pos) (Res x 0 [(FwOps.CARRY, FwOps.bitAt o.a (o.b % o.w))]) :=
  x_pr (has_bit_told T) (hr.mono hk) (p, o, x) (ac h1 (a1 h2 s2) s1) (fun H1 e1 => ⟨h.mono e1, hw⟩) hg (by decide) s1 hpl
theorem c_withBit (T : Top X.K X.mg) (hr : Room k X.A) (h1 : Is X σ H e1 (nv n)) (h2 : Is X σ H e2 (nv m)) (h3 : Is X σ H e3 (nv (if v = true then 1 else 0))) (hm : m ≤ 64) (hk : 2 ≤ k := by decide) (hg : Gl X "with_bit" := by rfl)
    (s1 : starEach [e1, e2, e3] X.env = (false, eval e1 X.env) :: starEach [e2, e3] X.env := by rfl) (s2 : starEach [e2, e3] X.env = (false, eval e2 X.env) :: starEach [e3] X.env := by rfl) (s3 : starEach [e3] X.env = (false, eval e3 X.env) :: starEach [] X.env := by rfl) (hpl : (backTo pos (starEach [e2, e3] X.env)).any (·.1) = false := by rfl) : Is X σ H (.Call (.Name "with_bit" p1) [e1, e2, e3] [] pos) (nv (FwOps.withBit n m v)) :=
  x_pv (has_with_bit T) (hr.mono hk) (n, m, v) (ac h1 (ac h2 (a1 h3 s3) s2) s1) (fun _ _ => hm) hg (by decide) s1 hpl
end
section
variable {P : Program} {w : World} {K : PySem.W.Frag} {mg : Str → Option Value} {base : Heap}
theorem has_both_bits (T : Top K mg) : Has P w K mg base 6 "both_bits" ["on"] (spOp K fun o => (FwOps.bits o.w (fun x y => x && y) o.a o.b, 0, FwOps.logic o.w (fun x y => x && y) o.a o.b)) := by
  refine has_of d_both_bits T.f_both_bits T.g_both_bits sc_both_bits (fun _ _ _ _ _ _ us hl => match us, hl with | [_], _ => rfl) (pr_len fun _ => rfl) fun cdv A outer s H vs Q E hr h => ?_
  obtain ⟨⟨p, o⟩, rfl, ⟨hon, g⟩, q⟩ := h
  exact r_ret (c_plain (x := FwOps.bits o.w (fun x y => x && y) o.a o.b) T hr hon g.w (xv 0) ((andI (g_a T hon (xv 0)) (g_b T hon (xv 0))).to (by rw [and_nn, and_bits g.b]))) q
theorem has_either_bit (T : Top K mg) : Has P w K mg base 6 "either_bit" ["on"] (spOp K fun o => (FwOps.bits o.w (fun x y => x || y) o.a o.b, 0, FwOps.logic o.w (fun x y => x || y) o.a o.b)) := by
  refine has_of d_either_bit T.f_either_bit T.g_either_bit sc_either_bit (fun _ _ _ _ _ _ us hl => match us, hl with | [_], _ => rfl) (pr_len fun _ => rfl) fun cdv A outer s H vs Q E hr h => ?_
  obtain ⟨⟨p, o⟩, rfl, ⟨hon, g⟩, q⟩ := h
  exact r_ret (c_plain (x := FwOps.bits o.w (fun x y => x || y) o.a o.b) T hr hon g.w (xv 0) ((orI (g_a T hon (xv 0)) (g_b T hon (xv 0))).to (congrArg V.int (or_nn g.a g.b)))) q
theorem has_unlike_bits (T : Top K mg) : Has P w K mg base 6 "unlike_bits" ["on"] (spOp K fun o => (FwOps.bits o.w (fun x y => x != y) o.a o.b, 0, FwOps.logic o.w (fun x y => x != y) o.a o.b)) := by
  refine has_of d_unlike_bits T.f_unlike_bits T.g_unlike_bits sc_unlike_bits (fun _ _ _ _ _ _ us hl => match us, hl with | [_], _ => rfl) (pr_len fun _ => rfl) fun cdv A outer s H vs Q E hr h => ?_
  obtain ⟨⟨p, o⟩, rfl, ⟨hon, g⟩, q⟩ := h
  exact r_ret (c_plain (x := FwOps.bits o.w (fun x y => x != y) o.a o.b) T hr hon g.w (xv 0) ((xorI (g_a T hon (xv 0)) (g_b T hon (xv 0))).to (congrArg V.int (xor_nn g.a g.b)))) q
theorem has_tried_bits (T : Top K mg) : Has P w K mg base 6 "tried_bits" ["on"] (spOp K fun o => (o.a, 0, FwOps.logic o.w (fun x y => x && y) o.a o.b)) := by
  refine has_of d_tried_bits T.f_tried_bits T.g_tried_bits sc_tried_bits (fun _ _ _ _ _ _ us hl => match us, hl with | [_], _ => rfl) (pr_len fun _ => rfl) fun cdv A outer s H vs Q E hr h => ?_
  obtain ⟨⟨p, o⟩, rfl, ⟨hon, g⟩, q⟩ := h
  exact r_ret (x_res (g_a T hon (xv 0)) (xn 0) (x_ixRes (c_plain (x := FwOps.bits o.w (fun x y => x && y) o.a o.b) T hr hon g.w (xv 0) ((andI (g_a T hon (xv 0)) (g_b T hon (xv 0))).to (by rw [and_nn, and_bits g.b]))) fun _ => xn 2)) q
theorem has_other_bits (T : Top K mg) : Has P w K mg base 6 "other_bits" ["on"] (spOp K fun o => (2 ^ o.w - 1 - o.a, 0, [])) := by
  refine has_of d_other_bits T.f_other_bits T.g_other_bits sc_other_bits (fun _ _ _ _ _ _ us hl => match us, hl with | [_], _ => rfl) (pr_len fun _ => rfl) fun cdv A outer s H vs Q E hr h => ?_
  obtain ⟨⟨p, o⟩, rfl, ⟨hon, g⟩, q⟩ := h
  have ga := g.a
  exact r_ret (x_res (subN (subN (g_bound T hon (xv 0)) (xn 1) (two_pos _)) (g_a T hon (xv 0)) (by omega)) (xn 0) x_none) q
theorem mod_le {o : On} (hw : Wd o.w) : o.b % o.w ≤ 64 := by
  have h := Nat.mod_lt o.b (show 0 < o.w from hw.pos)
  have := hw.le
  omega
theorem has_bit_asked (T : Top K mg) : Has P w K mg base 6 "bit_asked" ["on"] (spOp K fun o => (FwOps.withBit o.a (o.b % o.w) (FwOps.bitAt o.a (o.b % o.w)), 0, [(FwOps.CARRY, FwOps.bitAt o.a (o.b % o.w))])) := by
  refine has_of d_bit_asked T.f_bit_asked T.g_bit_asked sc_bit_asked (fun _ _ _ _ _ _ us hl => match us, hl with | [_], _ => rfl) (pr_len fun _ => rfl) fun cdv A outer s H vs Q E hr h => ?_
  obtain ⟨⟨p, o⟩, rfl, ⟨hon, g⟩, q⟩ := h
  exact r_ret (c_told T hr hon g.w (xv 0) ((g_a T hon (xv 0)).to (congrArg nv (withBit_same o.a (o.b % o.w)).symm))) q
theorem has_bit_set (T : Top K mg) : Has P w K mg base 6 "bit_set" ["on"] (spOp K fun o => (FwOps.withBit o.a (o.b % o.w) true, 0, [(FwOps.CARRY, FwOps.bitAt o.a (o.b % o.w))])) := by
  refine has_of d_bit_set T.f_bit_set T.g_bit_set sc_bit_set (fun _ _ _ _ _ _ us hl => match us, hl with | [_], _ => rfl) (pr_len fun _ => rfl) fun cdv A outer s H vs Q E hr h => ?_
  obtain ⟨⟨p, o⟩, rfl, ⟨hon, g⟩, q⟩ := h
  exact r_ret (c_told T hr hon g.w (xv 0) (c_withBit (v := true) T hr (g_a T hon (xv 0)) (modN (g_b T hon (xv 0)) (g_width T hon (xv 0)) (show 0 < o.w from g.w.pos)) (xn 1) (mod_le g.w))) q
theorem has_bit_cleared (T : Top K mg) : Has P w K mg base 6 "bit_cleared" ["on"] (spOp K fun o => (FwOps.withBit o.a (o.b % o.w) false, 0, [(FwOps.CARRY, FwOps.bitAt o.a (o.b % o.w))])) := by
  refine has_of d_bit_cleared T.f_bit_cleared T.g_bit_cleared sc_bit_cleared (fun _ _ _ _ _ _ us hl => match us, hl with | [_], _ => rfl) (pr_len fun _ => rfl) fun cdv A outer s H vs Q E hr h => ?_
  obtain ⟨⟨p, o⟩, rfl, ⟨hon, g⟩, q⟩ := h
  exact r_ret (c_told T hr hon g.w (xv 0) (c_withBit (v := false) T hr (g_a T hon (xv 0)) (modN (g_b T hon (xv 0)) (g_width T hon (xv 0)) (show 0 < o.w from g.w.pos)) (xn 0) (mod_le g.w))) q
theorem has_bit_turned (T : Top K mg) : Has P w K mg base 6 "bit_turned" ["on"] (spOp K fun o => (FwOps.withBit o.a (o.b % o.w) (!FwOps.bitAt o.a (o.b % o.w)), 0, [(FwOps.CARRY, FwOps.bitAt o.a (o.b % o.w))])) := by
  refine has_of d_bit_turned T.f_bit_turned T.g_bit_turned sc_bit_turned (fun _ _ _ _ _ _ us hl => match us, hl with | [_], _ => rfl) (pr_len fun _ => rfl) fun cdv A outer s H vs Q E hr h => ?_
  obtain ⟨⟨p, o⟩, rfl, ⟨hon, g⟩, q⟩ := h
  have b1 := Nat.mod_lt (o.a / 2 ^ (o.b % o.w)) (show 0 < 2 by decide)
  refine r_set 1 (modN (g_b T hon (xv 0)) (g_width T hon (xv 0)) (show 0 < o.w from g.w.pos)) ?_ sc_bit_turned.nd
  exact r_ret (c_told T hr hon g.w (xv 0) (c_withBit (v := !FwOps.bitAt o.a (o.b % o.w)) T hr (g_a T hon (xv 0)) (xv 1) ((subN (xn 1) (c_bit T hr (g_a T hon (xv 0)) (xv 1)) (by omega)).to (congrArg nv (turn_bit _ _))) (mod_le g.w))) q
theorem has_lowest_bit (T : Top K mg) : Has P w K mg base 6 "lowest_bit" ["on"] (spOp K fun o => (if o.b = 0 then o.a else FwOps.lowest o.w o.b, 0, [(FwOps.ZERO, decide (o.b = 0))])) := by
  refine has_of d_lowest_bit T.f_lowest_bit T.g_lowest_bit sc_lowest_bit (fun _ _ _ _ _ _ us hl => match us, hl with | [_], _ => rfl) (pr_len fun _ => rfl) fun cdv A outer s H vs Q E hr h => ?_
  obtain ⟨⟨p, o⟩, rfl, ⟨hon, g⟩, q⟩ := h
  have q : ∀ v H2, Ex H H2 → Res (if o.b = 0 then o.a else FwOps.lowest o.w o.b) 0 [(FwOps.ZERO, decide (o.b = 0))] v H2 → Q v H2 := q
  refine r_when (teqN (g_b T hon (xv 0)) (xn 0)) (fun hk => ?_) fun hk => ?_
  · rw [if_pos (of_decide_eq_true hk), hk] at q
    exact r_ret (x_res (g_a T hon (xv 0)) (xn 0) (x_flags (fa_cons (x_flag (xgn 6 T.g_ZERO) xb) fa_nil) (show 1 ≤ 1000 by decide))) q
  · have hn := of_decide_eq_false hk
    rw [if_neg hn, hk] at q
    refine r_ret (x_res ((subN (x_bitlen (andI (g_b T hon (xv 0)) (subI xi (g_b T hon (xv 0))))) (xn 1) ?_).to ?_) (xn 0) (x_flags (fa_cons (x_flag (xgn 6 T.g_ZERO) xb) fa_nil) (show 1 ≤ 1000 by decide))) q
    · rw [neg_and (by omega) g.b, bits_pow]
      omega
    · rw [neg_and (by omega) g.b, bits_pow, Nat.add_sub_cancel]
theorem has_highest_bit (T : Top K mg) : Has P w K mg base 6 "highest_bit" ["on"] (spOp K fun o => (if o.b = 0 then o.a else FwOps.highest o.w o.b, 0, [(FwOps.ZERO, decide (o.b = 0))])) := by
  refine has_of d_highest_bit T.f_highest_bit T.g_highest_bit sc_highest_bit (fun _ _ _ _ _ _ us hl => match us, hl with | [_], _ => rfl) (pr_len fun _ => rfl) fun cdv A outer s H vs Q E hr h => ?_
  obtain ⟨⟨p, o⟩, rfl, ⟨hon, g⟩, q⟩ := h
  have q : ∀ v H2, Ex H H2 → Res (if o.b = 0 then o.a else FwOps.highest o.w o.b) 0 [(FwOps.ZERO, decide (o.b = 0))] v H2 → Q v H2 := q
  refine r_when (teqN (g_b T hon (xv 0)) (xn 0)) (fun hk => ?_) fun hk => ?_
  · rw [if_pos (of_decide_eq_true hk), hk] at q
    exact r_ret (x_res (g_a T hon (xv 0)) (xn 0) (x_flags (fa_cons (x_flag (xgn 6 T.g_ZERO) xb) fa_nil) (show 1 ≤ 1000 by decide))) q
  · have hn := of_decide_eq_false hk
    rw [if_neg hn, hk] at q
    refine r_ret (x_res ((subN (x_bitlen (g_b T hon (xv 0))) (xn 1) ?_).to ?_) (xn 0) (x_flags (fa_cons (x_flag (xgn 6 T.g_ZERO) xb) fa_nil) (show 1 ≤ 1000 by decide))) q
    · rw [bits_log (by omega)]
      omega
    · rw [bits_log (by omega), Nat.add_sub_cancel, highest_is (by omega) g.b]
theorem rg8 {w : Nat} (h : Wd w) : RgC 0 (w : Int) 8 (w / 8) := by
  rcases h with h | h | h | h <;> rw [h] <;> exact ⟨by decide, by decide, by decide, by decide⟩
theorem has_bytes_turned (T : Top K mg) : Has P w K mg base 6 "bytes_turned" ["on"] (spOp K fun o => (FwOps.swapped o.w o.a, 0, [])) := by
  refine has_of d_bytes_turned T.f_bytes_turned T.g_bytes_turned sc_bytes_turned (fun _ _ _ _ _ _ us hl => match us, hl with | [_], _ => rfl) (pr_len fun _ => rfl) fun cdv A outer s H vs Q E hr h => ?_
  obtain ⟨⟨p, o⟩, rfl, ⟨hon, g⟩, q⟩ := h
  have hw := g.w.le
  refine r_set 1 (xn 0) ?_ sc_bytes_turned.nd
  refine r_forR3 2 (fun i σ => ∃ x, σ = [some (.ref p), some (nv (swapRun o.a i)), x]) T.n_range (ac xi (ac (g_width T hon (xv 0)) (a1 xi))) (rg8 g.w) PassesOwn.never sc_bytes_turned.nd ⟨none, rfl⟩ ?_ ?_
  · intro i σ' H1 e1 hi hI D' hD
    obtain ⟨x, rfl⟩ := hI
    have e0 : V.int ((0 : Int) + (i : Int) * 8) = nv (8 * i) := congrArg V.int (by omega)
    rw [e0]
    have h1 := swapRun_lt o.a i
    refine r_set 1 (addN (mulN (xv 1) (xn 256) (mul_ok h1 (show 256 < 2 ^ 9 by decide) (by omega))) (modN (shrN (g_a T (hon.mono e1) (xv 0)) (xv 2)) (xn 256) (by decide))) (r_nil fun H2 e2 => hD _ H2 ⟨some (nv (8 * i)), ?_⟩ e2) sc_bytes_turned.nd
    rw [swapRun_succ]
    rfl
  · intro σ' H1 e1 hI
    obtain ⟨x, rfl⟩ := hI
    exact r_ret (x_res (xv 1) (xn 0) x_none) fun v H2 e2 h => q v H2 (e1.trans e2) h
theorem has_carry_cleared (T : Top K mg) : Has P w K mg base 6 "carry_cleared" ["on"] (spOp K fun o => (o.a, 0, [(FwOps.CARRY, false)])) := by
  refine has_of d_carry_cleared T.f_carry_cleared T.g_carry_cleared sc_carry_cleared (fun _ _ _ _ _ _ us hl => match us, hl with | [_], _ => rfl) (pr_len fun _ => rfl) fun cdv A outer s H vs Q E hr h => ?_
  obtain ⟨⟨p, o⟩, rfl, ⟨hon, g⟩, q⟩ := h
  exact r_ret (x_res (g_a T hon (xv 0)) (xn 0) (x_flags (fa_cons (x_flag (xgn 0 T.g_CARRY) xb) fa_nil) (show 1 ≤ 1000 by decide))) q
theorem has_carry_set (T : Top K mg) : Has P w K mg base 6 "carry_set" ["on"] (spOp K fun o => (o.a, 0, [(FwOps.CARRY, true)])) := by
  refine has_of d_carry_set T.f_carry_set T.g_carry_set sc_carry_set (fun _ _ _ _ _ _ us hl => match us, hl with | [_], _ => rfl) (pr_len fun _ => rfl) fun cdv A outer s H vs Q E hr h => ?_
  obtain ⟨⟨p, o⟩, rfl, ⟨hon, g⟩, q⟩ := h
  exact r_ret (x_res (g_a T hon (xv 0)) (xn 0) (x_flags (fa_cons (x_flag (xgn 0 T.g_CARRY) xb) fa_nil) (show 1 ≤ 1000 by decide))) q
theorem kOf_zero (f : Nat) : decide (kOf f = 0) = !FwOps.bitAt f FwOps.CARRY := by
  unfold kOf
  cases FwOps.bitAt f FwOps.CARRY <;> rfl
theorem has_carry_turned (T : Top K mg) : Has P w K mg base 6 "carry_turned" ["on"] (spOp K fun o => (o.a, 0, [(FwOps.CARRY, !FwOps.bitAt o.f FwOps.CARRY)])) := by
  refine has_of d_carry_turned T.f_carry_turned T.g_carry_turned sc_carry_turned (fun _ _ _ _ _ _ us hl => match us, hl with | [_], _ => rfl) (pr_len fun _ => rfl) fun cdv A outer s H vs Q E hr h => ?_
  obtain ⟨⟨p, o⟩, rfl, ⟨hon, g⟩, q⟩ := h
  exact r_ret (x_res (g_a T hon (xv 0)) (xn 0) (x_flags (fa_cons (x_flag (xgn 0 T.g_CARRY) ((eqN (c_carry T hr hon (xv 0)) (xn 0)).to (congrArg V.bl (kOf_zero o.f)))) fa_nil) (show 1 ≤ 1000 by decide))) q
end
/-! ### Refused, Operands made -/
section
variable {P : Program} {w : World} {K : PySem.W.Frag} {mg : Str → Option Value} {base : Heap}
theorem Top.oex (T : Top K mg) : OexF K "Refused" "number" := oexB_ok T.x_Refused
abbrev cRef (K : PySem.W.Frag) : Addr := He.ga K "Refused"
abbrev spRef (K : PySem.W.Frag) : Sp := fun vs H Q _ => ∃ (a : Addr) (z : Int), vs = [.ref a, .int z] ∧ H a = some (exo a (cRef K) none) ∧
  ∀ (d : Addr) (H2 : Hp), H d = none → d ≠ a → (∀ b u, H b = some u → b ≠ a → H2 b = some u) → H2 a = some (exo a (cRef K) (some d)) → H2 d = some (exd d [("number", .int z)]) → Q .non H2
theorem fn_Refused (T : Top K mg) : ∃ fd, FnOk P w K mg base CX0 1 (He.ma K (cRef K) "__init__") fd ["self", "number"] (spRef K) ∧ Binds K fd ["self", "number"] [] := by
  refine fnM_of d_Refused_init T.f_Refused_init sc_Refused_init (fun _ _ _ _ _ _ us hl => match us, hl with | [_, _], _ => rfl) (fun vs H Q E h => ?_) fun cdv A outer s H vs Q E hr h => ?_
  · obtain ⟨a, z, rfl, _⟩ := h
    rfl
  · obtain ⟨a, z, rfl, ha, q⟩ := h
    have F := T.oex
    intro H1 e1
    refine ⟨_, pss_cons (ps_expr (pe_veinit rfl T.n_ValueError F.v (pa_cons (pv 0) (pa_cons pe_str pa_nil)))) (pss_one (ps_ost (pv 0) (pv 1))), ?_⟩
    refine ⟨_, rfl, a, cRef K, _, rfl, by decide, F.o, e1 _ _ ha, ?_⟩
    refine ⟨_, rfl, _, rfl, a, cRef K, rfl, F.o, F.no, .inl ⟨e1 _ _ ha, fun d hd hne => ?_⟩⟩
    refine q d _ (fresh_back e1 hd) hne (fun b u hb hba => ?_) upd_same ?_
    · rw [upd_ne hba, upd_ne (ne_of_none (e1 _ _ hb) hd)]
      exact e1 _ _ hb
    · rw [upd_ne hne, upd_same]
/-- what stood stands, but p -/
def Kp (p : Addr) (H H' : Hp) : Prop := ∀ b u, H b = some u → b ≠ p → H' b = some u
theorem Kp.put {p : Addr} {H H1 H2 : Hp} {o : HO} (h : Kp p H H1) (e : Ex H1 H2) : Kp p H (upd H2 p o) := fun b u hb hp => by
  rw [upd_ne hp]
  exact e _ _ (h b u hb hp)
abbrev cOps (K : PySem.W.Frag) : Addr := He.ga K "Operands"
abbrev spInit (K : PySem.W.Frag) : Sp := fun vs H Q _ => ∃ (p dx : Addr) (m a b c f : Nat), vs = [.ref p, nv m, nv a, nv b, nv c, nv f] ∧ H p = some (.ins (cOps K) dx []) ∧ m ≤ 64 ∧
  ∀ H2 : Hp, H2 p = some (.ins (cOps K) dx (onF ⟨m, a % 2 ^ m, b % 2 ^ m, c % 2 ^ m, f⟩)) → Kp p H H2 → Q .non H2
theorem put1 {v : V} {r : List (Str × V)} {g h : Str} {x y : V} (e : ¬ g = h) (k : putF h y r = r ++ [(h, y)]) : putF h y ((g, x) :: r) = (g, x) :: r ++ [(h, y)] := (put_past e).trans (congrArg _ k)
theorem fn_Operands (T : Top K mg) : ∃ fd, FnOk P w K mg base CX0 1 (He.ma K (cOps K) "__init__") fd ["self", "width", "a", "b", "c", "flags"] (spInit K) ∧ Binds K fd ["self", "width", "a", "b", "c", "flags"] [] := by
  refine fnM_of d_Operands_init T.f_Operands_init sc_Operands_init (fun _ _ _ _ _ _ us hl => match us, hl with | [_, _, _, _, _, _], _ => rfl) (fun vs H Q E h => ?_) fun cdv A outer s H vs Q E hr h => ?_
  · obtain ⟨p, dx, m, a, b, c, f, rfl, _⟩ := h
    rfl
  · obtain ⟨p, dx, m, a, b, c, f, rfl, hp, hm, q⟩ := h
    have hc := T.c_Operands
    refine r_fld (xv 1) (xv 0) hp hc T.a_Operands_width (show 0 < 1000 by decide) fun H1 e1 => ?_
    have k1 : Kp p H (upd H1 p (.ins (cOps K) dx (putF "width" (nv m) []))) := Kp.put (fun b u hb _ => hb) e1
    rw [show putF ("width" : Str) (nv m) [] = [(("width" : Str), nv m)] from rfl] at k1 ⊢
    refine r_fld (oneShl (xn 1) (xv 1) (by omega)) (xv 0) upd_same hc T.a_Operands_bound (show 1 < 1000 by decide) fun H2 e2 => ?_
    have k2 : Kp p H (upd H2 p _) := Kp.put k1 e2 (o := .ins (cOps K) dx (putF "bound" (nv (2 ^ m)) [("width", nv m)]))
    rw [show putF ("bound" : Str) (nv (2 ^ m)) [(("width" : Str), nv m)] = ([("width", nv m), ("bound", nv (2 ^ m))] : List (Str × V)) from put_past (by decide +kernel)] at k2 ⊢
    refine r_fld (modN (xv 2) (x_fld (xv 0) upd_same hc T.a_Operands_bound ((lk_past (by decide +kernel)).trans lk_here)) (two_pos m)) (xv 0) upd_same hc T.a_Operands_a (show 2 < 1000 by decide) fun H3 e3 => ?_
    have k3 : Kp p H (upd H3 p _) := Kp.put k2 e3 (o := .ins (cOps K) dx (putF "a" (nv (a % 2 ^ m)) [("width", nv m), ("bound", nv (2 ^ m))]))
    rw [show putF ("a" : Str) (nv (a % 2 ^ m)) [(("width" : Str), nv m), (("bound" : Str), nv (2 ^ m))] = ([("width", nv m), ("bound", nv (2 ^ m)), ("a", nv (a % 2 ^ m))] : List (Str × V)) from (put_past (by decide +kernel)).trans (congrArg _ (put_past (by decide +kernel)))] at k3 ⊢
    refine r_fld (modN (xv 3) (x_fld (xv 0) upd_same hc T.a_Operands_bound ((lk_past (by decide +kernel)).trans lk_here)) (two_pos m)) (xv 0) upd_same hc T.a_Operands_b (show 3 < 1000 by decide) fun H4 e4 => ?_
    have k4 : Kp p H (upd H4 p _) := Kp.put k3 e4 (o := .ins (cOps K) dx (putF "b" (nv (b % 2 ^ m)) [("width", nv m), ("bound", nv (2 ^ m)), ("a", nv (a % 2 ^ m))]))
    rw [show putF ("b" : Str) (nv (b % 2 ^ m)) [(("width" : Str), nv m), (("bound" : Str), nv (2 ^ m)), (("a" : Str), nv (a % 2 ^ m))] = ([("width", nv m), ("bound", nv (2 ^ m)), ("a", nv (a % 2 ^ m)), ("b", nv (b % 2 ^ m))] : List (Str × V)) from
      (put_past (by decide +kernel)).trans (congrArg _ ((put_past (by decide +kernel)).trans (congrArg _ (put_past (by decide +kernel)))))] at k4 ⊢
    refine r_fld (modN (xv 4) (x_fld (xv 0) upd_same hc T.a_Operands_bound ((lk_past (by decide +kernel)).trans lk_here)) (two_pos m)) (xv 0) upd_same hc T.a_Operands_c (show 4 < 1000 by decide) fun H5 e5 => ?_
    have k5 : Kp p H (upd H5 p _) := Kp.put k4 e5 (o := .ins (cOps K) dx (putF "c" (nv (c % 2 ^ m)) [("width", nv m), ("bound", nv (2 ^ m)), ("a", nv (a % 2 ^ m)), ("b", nv (b % 2 ^ m))]))
    rw [show putF ("c" : Str) (nv (c % 2 ^ m)) [(("width" : Str), nv m), (("bound" : Str), nv (2 ^ m)), (("a" : Str), nv (a % 2 ^ m)), (("b" : Str), nv (b % 2 ^ m))] = ([("width", nv m), ("bound", nv (2 ^ m)), ("a", nv (a % 2 ^ m)), ("b", nv (b % 2 ^ m)), ("c", nv (c % 2 ^ m))] : List (Str × V)) from
      (put_past (by decide +kernel)).trans (congrArg _ ((put_past (by decide +kernel)).trans (congrArg _ ((put_past (by decide +kernel)).trans (congrArg _ (put_past (by decide +kernel)))))))] at k5 ⊢
    refine r_fld (xv 5) (xv 0) upd_same hc T.a_Operands_flags (show 5 < 1000 by decide) fun H6 e6 => ?_
    have k6 : Kp p H (upd H6 p _) := Kp.put k5 e6 (o := .ins (cOps K) dx (putF "flags" (nv f) [("width", nv m), ("bound", nv (2 ^ m)), ("a", nv (a % 2 ^ m)), ("b", nv (b % 2 ^ m)), ("c", nv (c % 2 ^ m))]))
    rw [show putF ("flags" : Str) (nv f) [(("width" : Str), nv m), (("bound" : Str), nv (2 ^ m)), (("a" : Str), nv (a % 2 ^ m)), (("b" : Str), nv (b % 2 ^ m)), (("c" : Str), nv (c % 2 ^ m))] = onF ⟨m, a % 2 ^ m, b % 2 ^ m, c % 2 ^ m, f⟩ from
      (put_past (by decide +kernel)).trans (congrArg _ ((put_past (by decide +kernel)).trans (congrArg _ ((put_past (by decide +kernel)).trans (congrArg _ ((put_past (by decide +kernel)).trans (congrArg _ (put_past (by decide +kernel)))))))))] at k6 ⊢
    refine r_nil fun H7 e7 => q H7 (e7 _ _ upd_same) fun b u hb hbp => e7 _ _ (k6 b u hb hbp)
/-- how a refusal lies behind it -/
abbrev RefE (K : PySem.W.Frag) (z : Int) (H : Hp) (E : XK) : Prop := ∀ (d : Addr) (H2 : Hp), Ex H H2 → H2 d = some (.xd [("number", .int z)]) → E (.ref (cRef K)) (some d) H2
/-- what an operation gives: a result, or a refusal -/
def Out (K : PySem.W.Frag) (r : FwOps.Gives) (H : Hp) (Q : VK) (E : XK) : Prop := match r with
  | .ok (lo, hi, l) => ∀ v H2, Ex H H2 → Res lo hi l v H2 → Q v H2
  | .error z => RefE K z H E
end
section
variable {X : Cx} {σ : St} {H : Hp} {e e1 e2 e3 e4 e5 : Expr} {p1 pos pos2 : Pos} {k : Nat} {D : Ends} {E : XK} {z : Int}
/-- raise Refused(a number) -/
theorem r_raise (T : Top X.K X.mg) (hr : Room k X.A) (tk : Takes X (fun cls d _ H => E cls d H)) (he : Is X σ H e (.int z)) (hE : RefE X.K z H E) (hk : 2 ≤ k := by decide) (hc : X.calm = true := by rfl) (hg : Gl X "Refused" := by rfl)
    (s1 : starEach [e] X.env = (false, eval e X.env) :: starEach [] X.env := by rfl) (hpl : (backTo pos (starEach [] X.env)).any (·.1) = false := by rfl) : Runs X H [.Raise (some (.Call (.Name "Refused" p1) [e] [] pos)) none pos2] D σ := fun H1 k1 => by
  obtain ⟨fd, F1, hb⟩ := fn_Refused (P := X.prog) (w := X.w) (base := X.base) T
  have F := T.oex
  refine ⟨_, pss_one (ps_raise hc tk (pmk_oex (dvs := []) F.o F.i F.t F1 (hr.mono hk) hb .nil pass0 hg T.g_Refused AW.pa (by decide) s1 hpl)), ?_⟩
  refine a1 he s1 H1 k1 _ fun H2 k2 => ⟨show 1 ≤ 1000 by decide, fun a ha => ?_⟩
  refine ⟨a, z, rfl, upd_same, fun d H3 hd hne hkp h1 h2 => ⟨rfl, d, _, h1, h2, ?_, ?_⟩⟩
  · rw [upd_ne hne] at hd
    exact hd
  · have hd2 : H2 d = none := by
      rw [upd_ne hne] at hd
      exact hd
    refine hE d _ ((k1.trans k2).trans fun b u hb => ?_) upd_same
    have n1 : b ≠ d := ne_of_none hb hd2
    have n2 : b ≠ a := ne_of_none hb ha
    rw [upd_ne n1, del_ne n2]
    exact hkp b u (by rw [upd_ne n2]; exact hb) n2
/-- Operands(..) -/
theorem c_Operands {m a b c f : Nat} (T : Top X.K X.mg) (hr : Room k X.A) (h1 : Is X σ H e1 (nv m)) (h2 : Is X σ H e2 (nv a)) (h3 : Is X σ H e3 (nv b)) (h4 : Is X σ H e4 (nv c)) (h5 : Is X σ H e5 (nv f)) (hm : m ≤ 64) (hk : 2 ≤ k := by decide) (hg : Gl X "Operands" := by rfl)
    (s1 : starEach [e1, e2, e3, e4, e5] X.env = (false, eval e1 X.env) :: starEach [e2, e3, e4, e5] X.env := by rfl) (s2 : starEach [e2, e3, e4, e5] X.env = (false, eval e2 X.env) :: starEach [e3, e4, e5] X.env := by rfl) (s3 : starEach [e3, e4, e5] X.env = (false, eval e3 X.env) :: starEach [e4, e5] X.env := by rfl)
    (s4 : starEach [e4, e5] X.env = (false, eval e4 X.env) :: starEach [e5] X.env := by rfl) (s5 : starEach [e5] X.env = (false, eval e5 X.env) :: starEach [] X.env := by rfl) (hpl : (backTo pos (starEach [e2, e3, e4, e5] X.env)).any (·.1) = false := by rfl) :
    Gets X σ H (.Call (.Name "Operands" p1) [e1, e2, e3, e4, e5] [] pos) (fun v H => ∃ p, v = .ref p ∧ OnAt X.K ⟨m, a % 2 ^ m, b % 2 ^ m, c % 2 ^ m, f⟩ p H) :=
  x_make T.k_Operands (fn_Operands T) (hr.mono hk) T.g_Operands (ac h1 (ac h2 (ac h3 (ac h4 (a1 h5 s5) s4) s3) s2) s1).gets (fun vs H1 k1 hv q dx n1 n2 n3 Q qq => by
    subst hv
    refine ⟨q, dx, m, a, b, c, f, rfl, upd_same, hm, fun H2 hq hkp => ⟨rfl, qq H2 (fun b u hb => ?_) ⟨q, rfl, dx, hq⟩⟩⟩
    have m1 : b ≠ q := ne_of_none hb n1
    have m2 : b ≠ dx := ne_of_none hb n2
    exact hkp b u (by rw [upd_ne m1, upd_ne m2]; exact hb) m1) hg (by decide) s1 hpl
end
/-! ### digits.py -/
theorem div_ok {n m b : Nat} (h : 0 < m) (hb : m < 2 ^ b) (h0 : 0 < b) (h9 : b ≤ 9000) : CDivW (n : Int) (m : Int) := wide_div (b := b) (by omega) (by omega) h0 h9
theorem kOf_one (f : Nat) : decide (kOf f = 1) = FwOps.bitAt f FwOps.CARRY := by
  unfold kOf
  cases FwOps.bitAt f FwOps.CARRY <;> rfl
def lowW (o : On) : Bool := decide (9 < o.a % 16) || FwOps.bitAt o.f FwOps.HALF
def highW (o : On) : Bool := decide (153 < o.a) || FwOps.bitAt o.f FwOps.CARRY
def daaLo (o : On) : Nat := (o.a + (if lowW o = true then 6 else 0) + (if highW o = true then 96 else 0)) % 256
def dasLo (o : On) : Nat := (o.a + 512 - (if lowW o = true then 6 else 0) - (if highW o = true then 96 else 0)) % 256
/-- what an operation that may refuse gives -/
abbrev spOpX (K : PySem.W.Frag) (g : On → FwOps.Gives) : Sp := fun vs H Q E => ∃ (p : Addr) (o : On), vs = [.ref p] ∧ OnAt K o p H ∧ Good o ∧ Out K (g o) H Q E
section
variable {P : Program} {w : World} {K : PySem.W.Frag} {mg : Str → Option Value} {base : Heap}
theorem opX_len {g : On → FwOps.Gives} (vs : List V) (H : Hp) (Q : VK) (E : XK) (h : spOpX K g vs H Q E) : vs.length = 1 := by
  obtain ⟨p, o, rfl, _⟩ := h
  rfl
abbrev spWrong (K : PySem.W.Frag) (b : On → Bool) : Sp := Pv (ι := Addr × On) (fun i => [.ref i.1]) (fun i H => OnAt K i.2 i.1 H) (fun i => .bl (b i.2))
theorem has_is_low_wrong (T : Top K mg) : Has P w K mg base 3 "is_low_wrong" ["on"] (spWrong K lowW) := by
  refine has_of d_is_low_wrong T.f_is_low_wrong T.g_is_low_wrong sc_is_low_wrong (fun _ _ _ _ _ _ us hl => match us, hl with | [_], _ => rfl) (pv_len fun _ => rfl) fun cdv A outer s H vs Q E hr h => ?_
  obtain ⟨⟨p, o⟩, rfl, hon, q⟩ := h
  exact r_retV (x_or2 (gtN (modN (g_a T hon (xv 0)) (xn 16) (by decide)) (xn 9)) (c_half T hr hon (xv 0))) q
theorem has_is_high_wrong (T : Top K mg) : Has P w K mg base 3 "is_high_wrong" ["on"] (spWrong K highW) := by
  refine has_of d_is_high_wrong T.f_is_high_wrong T.g_is_high_wrong sc_is_high_wrong (fun _ _ _ _ _ _ us hl => match us, hl with | [_], _ => rfl) (pv_len fun _ => rfl) fun cdv A outer s H vs Q E hr h => ?_
  obtain ⟨⟨p, o⟩, rfl, hon, q⟩ := h
  exact r_retV (x_or2 (gtN (g_a T hon (xv 0)) (xgn 153 T.g_MOST_TWO)) ((eqN (c_carry T hr hon (xv 0)) (xn 1)).to (congrArg V.bl (kOf_one o.f)))) q
end
section
variable {X : Cx} {σ : St} {H : Hp} {e1 e2 : Expr} {p1 pos : Pos} {o : On} {p : Addr} {k : Nat}
theorem c_low (T : Top X.K X.mg) (hr : Room k X.A) (h : OnAt X.K o p H) (h1 : Is X σ H e1 (.ref p)) (hk : 3 ≤ k := by decide) (hg : Gl X "is_low_wrong" := by rfl)
    (s1 : starEach [e1] X.env = (false, eval e1 X.env) :: starEach [] X.env := by rfl) (hpl : (backTo pos (starEach [] X.env)).any (·.1) = false := by rfl) : Is X σ H (.Call (.Name "is_low_wrong" p1) [e1] [] pos) (.bl (lowW o)) :=
  x_pv (has_is_low_wrong T) (hr.mono hk) (p, o) (a1 h1 s1) (fun H1 e1 => h.mono e1) hg (by decide) s1 hpl
theorem c_high (T : Top X.K X.mg) (hr : Room k X.A) (h : OnAt X.K o p H) (h1 : Is X σ H e1 (.ref p)) (hk : 3 ≤ k := by decide) (hg : Gl X "is_high_wrong" := by rfl)
    (s1 : starEach [e1] X.env = (false, eval e1 X.env) :: starEach [] X.env := by rfl) (hpl : (backTo pos (starEach [] X.env)).any (·.1) = false := by rfl) : Is X σ H (.Call (.Name "is_high_wrong" p1) [e1] [] pos) (.bl (highW o)) :=
  x_pv (has_is_high_wrong T) (hr.mono hk) (p, o) (a1 h1 s1) (fun H1 e1 => h.mono e1) hg (by decide) s1 hpl
end
section
variable {P : Program} {w : World} {K : PySem.W.Frag} {mg : Str → Option Value} {base : Heap}
theorem if_lt (b : Bool) : (if b = true then 1 else 0 : Nat) < 2 := by cases b <;> decide
theorem daa_is (a : Nat) (x y : Bool) : (a + 6 * (if x = true then 1 else 0) + 96 * (if y = true then 1 else 0)) % 256 = (a + (if x = true then 6 else 0) + (if y = true then 96 else 0)) % 256 := by cases x <;> cases y <;> rfl
theorem das_is (a : Nat) (x y : Bool) : ((a : Int) - ((6 * (if x = true then 1 else 0) : Nat) : Int) - ((96 * (if y = true then 1 else 0) : Nat) : Int)) % ((256 : Nat) : Int) = (((a + 512 - (if x = true then 6 else 0) - (if y = true then 96 else 0)) % 256 : Nat) : Int) := by
  cases x <;> cases y <;> simp <;> omega
theorem has_after_sum (T : Top K mg) : Has P w K mg base 6 "after_sum" ["on"] (spOp K fun o => (daaLo o, 0, FwOps.shows o.w (daaLo o) ++ [(FwOps.HALF, lowW o), (FwOps.CARRY, highW o)])) := by
  refine has_of d_after_sum T.f_after_sum T.g_after_sum sc_after_sum (fun _ _ _ _ _ _ us hl => match us, hl with | [_], _ => rfl) (pr_len fun _ => rfl) fun cdv A outer s H vs Q E hr h => ?_
  obtain ⟨⟨p, o⟩, rfl, ⟨hon, g⟩, q⟩ := h
  refine r_set 1 (v := nv (daaLo o)) ((modN (addN (addN (g_a T hon (xv 0)) (mulN (xn 6) (x_intB T.n_int (c_low T hr hon (xv 0))) (mul_ok (a := 3) (b := 1) (by decide) (if_lt _) (by decide)))) (mulN (xn 96) (x_intB T.n_int (c_high T hr hon (xv 0))) (mul_ok (a := 7) (b := 1) (by decide) (if_lt _) (by decide)))) (xgn 256 T.g_BYTE) (by decide)).to (congrArg nv (daa_is _ _ _))) ?_ sc_after_sum.nd
  exact r_ret (x_res (xv 1) (xn 0) (x_cat (l := FwOps.shows o.w (daaLo o)) (c_shows T hr hon g.w (xv 0) (xv 1)) (x_flags (fa_cons (x_flag (xgn 4 T.g_HALF) (c_low T hr hon (xv 0))) (fa_cons (x_flag (xgn 0 T.g_CARRY) (c_high T hr hon (xv 0))) fa_nil)) (show 2 ≤ 1000 by decide)) (show 3 + 2 ≤ 1000 by decide))) q
theorem has_after_difference (T : Top K mg) : Has P w K mg base 6 "after_difference" ["on"] (spOp K fun o => (dasLo o, 0, FwOps.shows o.w (dasLo o) ++ [(FwOps.HALF, lowW o), (FwOps.CARRY, highW o || (lowW o && decide (o.a < 6)))])) := by
  refine has_of d_after_difference T.f_after_difference T.g_after_difference sc_after_difference (fun _ _ _ _ _ _ us hl => match us, hl with | [_], _ => rfl) (pr_len fun _ => rfl) fun cdv A outer s H vs Q E hr h => ?_
  obtain ⟨⟨p, o⟩, rfl, ⟨hon, g⟩, q⟩ := h
  refine r_set 1 (v := nv (dasLo o)) ((modI (subI (subI (g_a T hon (xv 0)) (mulN (xn 6) (x_intB T.n_int (c_low T hr hon (xv 0))) (mul_ok (a := 3) (b := 1) (by decide) (if_lt _) (by decide)))) (mulN (xn 96) (x_intB T.n_int (c_high T hr hon (xv 0))) (mul_ok (a := 7) (b := 1) (by decide) (if_lt _) (by decide)))) (xgn 256 T.g_BYTE) (by decide)).to (congrArg V.int (das_is _ _ _))) ?_ sc_after_difference.nd
  refine r_set 2 (x_or2 (c_high T hr hon (xv 0)) (x_and2 (c_low T hr hon (xv 0)) (ltN (g_a T hon (xv 0)) (xn 6)))) ?_ sc_after_difference.nd
  exact r_ret (x_res (xv 1) (xn 0) (x_cat (l := FwOps.shows o.w (dasLo o)) (c_shows T hr hon g.w (xv 0) (xv 1)) (x_flags (fa_cons (x_flag (xgn 4 T.g_HALF) (c_low T hr hon (xv 0))) (fa_cons (x_flag (xgn 0 T.g_CARRY) (xv 2)) fa_nil)) (show 2 ≤ 1000 by decide)) (show 3 + 2 ≤ 1000 by decide))) q
def digFlags (o : On) : List Giv := [(FwOps.HALF, lowW o), (FwOps.CARRY, lowW o)]
abbrev spDig (K : PySem.W.Frag) : Sp := Pr (ι := Addr × On × Int × Nat) (fun i => [.ref i.1, .int i.2.2.1]) (fun i H => OnAt K i.2.1 i.1 H ∧ i.2.2.1 % ((2 ^ i.2.1.w : Nat) : Int) = (i.2.2.2 : Int) ∧ i.2.2.2 < 2 ^ 64) (fun i => Res (FwOps.oneDigit i.2.2.2) 0 (digFlags i.2.1))
theorem dig_is (x : Nat) : x / 256 * 256 + x % 16 = FwOps.oneDigit x := by
  unfold FwOps.oneDigit
  omega
theorem has_one_digit (T : Top K mg) : Has P w K mg base 4 "one_digit" ["on", "number"] (spDig K) := by
  refine has_of d_one_digit T.f_one_digit T.g_one_digit sc_one_digit (fun _ _ _ _ _ _ us hl => match us, hl with | [_, _], _ => rfl) (pr_len fun _ => rfl) fun cdv A outer s H vs Q E hr h => ?_
  obtain ⟨⟨p, o, z, x⟩, rfl, ⟨hon, hx, hl⟩, q⟩ := h
  have hl : x < 2 ^ 64 := hl
  have hx : z % ((2 ^ o.w : Nat) : Int) = (x : Int) := hx
  have hp := two_pos o.w
  refine r_set 2 (v := nv x) ((modI (xv 1) (g_bound T hon (xv 0)) (by omega)).to (congrArg V.int hx)) ?_ sc_one_digit.nd
  refine r_set 3 (v := nv (FwOps.oneDigit x)) ((addN (mulN (divN (xv 2) (xgn 256 T.g_BYTE) (div_ok (b := 9) (by decide) (by decide) (by decide) (by decide))) (xgn 256 T.g_BYTE) ?_) (modN (xv 2) (xn 16) (by decide))).to (congrArg nv (dig_is x))) ?_ sc_one_digit.nd
  · exact mul_ok (a := 64) (b := 9) (by omega) (by decide) (by decide)
  · exact r_ret (x_res (xv 3) (xn 0) (x_flags (l := digFlags o) (fa_cons (x_flag (xgn 4 T.g_HALF) (c_low T hr hon (xv 0))) (fa_cons (x_flag (xgn 0 T.g_CARRY) (c_low T hr hon (xv 0))) fa_nil)) (show 2 ≤ 1000 by decide))) q
theorem pow_le {w x : Nat} (hw : Wd w) (h : x < 2 ^ w) : x < 2 ^ 64 := Nat.lt_of_lt_of_le h (Nat.pow_le_pow_right (by decide) hw.le)
def aaaX (o : On) : Nat := (o.a + (if lowW o = true then 262 else 0)) % 2 ^ o.w
def aasX (o : On) : Nat := (((o.a : Int) - ((262 * (if lowW o = true then 1 else 0) : Nat) : Int)) % ((2 ^ o.w : Nat) : Int)).toNat
theorem aaa_is (o : On) : ((o.a + 262 * (if lowW o = true then 1 else 0) : Nat) : Int) % ((2 ^ o.w : Nat) : Int) = (aaaX o : Int) := by
  unfold aaaX
  rw [← Int.natCast_emod]
  cases lowW o <;> rfl
theorem aas_is (o : On) : ((o.a : Int) - ((262 * (if lowW o = true then 1 else 0) : Nat) : Int)) % ((2 ^ o.w : Nat) : Int) = (aasX o : Int) := by
  unfold aasX
  rw [Int.toNat_of_nonneg (Int.emod_nonneg _ (by have := two_pos o.w; omega))]
theorem aas_lt (o : On) : aasX o < 2 ^ o.w := by
  have h := aas_is o
  have hp := two_pos o.w
  have h2 := Int.emod_lt_of_pos ((o.a : Int) - ((262 * (if lowW o = true then 1 else 0) : Nat) : Int)) (show (0 : Int) < ((2 ^ o.w : Nat) : Int) by omega)
  omega
theorem has_digit_after_sum (T : Top K mg) : Has P w K mg base 6 "digit_after_sum" ["on"] (spOp K fun o => (FwOps.oneDigit (aaaX o), 0, digFlags o)) := by
  refine has_of d_digit_after_sum T.f_digit_after_sum T.g_digit_after_sum sc_digit_after_sum (fun _ _ _ _ _ _ us hl => match us, hl with | [_], _ => rfl) (pr_len fun _ => rfl) fun cdv A outer s H vs Q E hr h => ?_
  obtain ⟨⟨p, o⟩, rfl, ⟨hon, g⟩, q⟩ := h
  have hl : aaaX o < 2 ^ 64 := pow_le g.w (Nat.mod_lt _ (two_pos o.w))
  exact r_ret (x_pr (has_one_digit T) (hr.mono (by decide)) (p, o, ((o.a + 262 * (if lowW o = true then 1 else 0) : Nat) : Int), aaaX o) (ac (xv 0) (a1 (addN (g_a T hon (xv 0)) (mulN (xgn 262 T.g_BOTH_DIGITS) (x_intB T.n_int (c_low T hr hon (xv 0))) (mul_ok (a := 9) (b := 1) (by decide) (if_lt _) (by decide)))))) fun H1 e1 => ⟨hon.mono e1, aaa_is o, hl⟩) q
theorem has_digit_after_difference (T : Top K mg) : Has P w K mg base 6 "digit_after_difference" ["on"] (spOp K fun o => (FwOps.oneDigit (aasX o), 0, digFlags o)) := by
  refine has_of d_digit_after_difference T.f_digit_after_difference T.g_digit_after_difference sc_digit_after_difference (fun _ _ _ _ _ _ us hl => match us, hl with | [_], _ => rfl) (pr_len fun _ => rfl) fun cdv A outer s H vs Q E hr h => ?_
  obtain ⟨⟨p, o⟩, rfl, ⟨hon, g⟩, q⟩ := h
  have hl : aasX o < 2 ^ 64 := pow_le g.w (aas_lt o)
  exact r_ret (x_pr (has_one_digit T) (hr.mono (by decide)) (p, o, ((o.a : Int) - ((262 * (if lowW o = true then 1 else 0) : Nat) : Int)), aasX o) (ac (xv 0) (a1 (subI (g_a T hon (xv 0)) (mulN (xgn 262 T.g_BOTH_DIGITS) (x_intB T.n_int (c_low T hr hon (xv 0))) (mul_ok (a := 9) (b := 1) (by decide) (if_lt _) (by decide)))))) fun H1 e1 => ⟨hon.mono e1, aas_is o, hl⟩) q
theorem has_digits_parted (T : Top K mg) : HasX P w K mg base 6 "digits_parted" ["on"] (spOpX K fun o => FwOps.aam o.a o.b) := by
  refine hasX_of d_digits_parted T.f_digits_parted T.g_digits_parted sc_digits_parted (fun _ _ _ _ _ _ us hl => match us, hl with | [_], _ => rfl) opX_len fun cdv A outer s H vs Q E hr h => ?_
  obtain ⟨p, o, rfl, hon, g, q⟩ := h
  have q : Out K (FwOps.aam o.a o.b) H Q E := q
  have ga := pow_le g.w g.a
  unfold FwOps.aam at q
  refine r_set 1 (modN (g_b T hon (xv 0)) (xgn 256 T.g_BYTE) (by decide)) ?_ sc_digits_parted.nd
  refine r_when (teqN (xv 1) (xn 0)) (fun hk => ?_) fun hk => ?_
  · rw [if_pos (of_decide_eq_true hk)] at q
    exact r_raise T hr (takes_of rfl rfl rfl rfl) (xgi T.g_NO_QUOTIENT) q
  · have hn := of_decide_eq_false hk
    rw [if_neg hn] at q
    have h1 := Nat.mod_lt o.b (show 0 < 256 by decide)
    have hd : CDivW ((o.a % 256 : Nat) : Int) ((o.b % 256 : Nat) : Int) := div_ok (b := 9) (by omega) (by omega) (by decide) (by decide)
    have h2 := Nat.div_le_self (o.a % 256) (o.b % 256)
    have h3 := Nat.mod_lt o.a (show 0 < 256 by decide)
    refine r_set 2 (modN (g_a T hon (xv 0)) (xgn 256 T.g_BYTE) (by decide)) ?_ sc_digits_parted.nd
    exact r_ret (x_res (addN (mulN (divN (xv 2) (xv 1) hd) (xgn 256 T.g_BYTE) (mul_ok (a := 9) (b := 9) (by omega) (by decide) (by decide))) (modN (xv 2) (xv 1) (by omega))) (xn 0) (c_shown T hr (modN (xv 2) (xv 1) (by omega)) (xn 8) (by decide) (by decide))) q
theorem has_digits_joined (T : Top K mg) : Has P w K mg base 6 "digits_joined" ["on"] (spOp K fun o => ((o.a % 256 + o.a / 256 * (o.b % 256)) % 256, 0, FwOps.shows 8 ((o.a % 256 + o.a / 256 * (o.b % 256)) % 256))) := by
  refine has_of d_digits_joined T.f_digits_joined T.g_digits_joined sc_digits_joined (fun _ _ _ _ _ _ us hl => match us, hl with | [_], _ => rfl) (pr_len fun _ => rfl) fun cdv A outer s H vs Q E hr h => ?_
  obtain ⟨⟨p, o⟩, rfl, ⟨hon, g⟩, q⟩ := h
  have ga := pow_le g.w g.a
  have h1 := Nat.mod_lt o.b (show 0 < 256 by decide)
  refine r_set 1 (modN (addN (modN (g_a T hon (xv 0)) (xgn 256 T.g_BYTE) (by decide)) (mulN (divN (g_a T hon (xv 0)) (xgn 256 T.g_BYTE) (div_ok (b := 9) (by decide) (by decide) (by decide) (by decide))) (modN (g_b T hon (xv 0)) (xgn 256 T.g_BYTE) (by decide)) (mul_ok (a := 64) (b := 9) (by omega) (by omega) (by decide)))) (xgn 256 T.g_BYTE) (by decide)) ?_ sc_digits_joined.nd
  exact r_ret (x_res (xv 1) (xn 0) (c_shown T hr (xv 1) (xn 8) (by decide) (by decide))) q
end
/-! ### products.py -/
section
variable {X : Cx} {σ : St} {H : Hp} {a b c : Expr} {pos : Pos}
/-- a <= b < c -/
theorem x_leLt {i j m : Int} (ha : Is X σ H a (.int i)) (hb : Is X σ H b (.int j)) (hc : Is X σ H c (.int m)) (hm : lastMarks [.LtE, .Lt] [b, c] = false := by with_unfolding_all rfl) : Is X σ H (.Compare a [.LtE, .Lt] [b, c] pos) (.bl (decide (i ≤ j) && decide (j < m))) :=
  is_of (pe_chain op_le op_lt EW.pe EW.pe EW.pe hm) fun H1 e1 Q q => ha H1 e1 _ fun H2 e2 => hb H2 (e1.trans e2) _ fun H3 e3 => ⟨i, j, rfl, rfl, decide (i ≤ j), rfl, by
    cases hk : decide (i ≤ j) with
    | true =>
      rw [if_pos rfl]
      refine hc H3 ((e1.trans e2).trans e3) _ fun H4 e4 => ⟨j, m, rfl, rfl, ?_⟩
      have z := q H4 ((e2.trans e3).trans e4)
      rw [hk, Bool.true_and] at z
      exact z
    | false =>
      rw [if_neg Bool.false_ne_true]
      have z := q H3 (e2.trans e3)
      rw [hk, Bool.false_and] at z
      exact z⟩
end
section
variable {P : Program} {w : World} {K : PySem.W.Frag} {mg : Str → Option Value} {base : Heap}
abbrev spFit (K : PySem.W.Frag) : Sp := Pv (ι := Addr × On × Int) (fun i => [.ref i.1, .int i.2.2]) (fun i H => OnAt K i.2.1 i.1 H ∧ Wd i.2.1.w ∧ i.2.2.natAbs < 2 ^ 140) (fun i => .bl (FwOps.inSigned i.2.1.w i.2.2))
theorem has_does_fit (T : Top K mg) : Has P w K mg base 1 "does_fit" ["on", "number"] (spFit K) := by
  refine has_of d_does_fit T.f_does_fit T.g_does_fit sc_does_fit (fun _ _ _ _ _ _ us hl => match us, hl with | [_, _], _ => rfl) (pv_len fun _ => rfl) fun cdv A outer s H vs Q E hr h => ?_
  obtain ⟨⟨p, o, z⟩, rfl, ⟨hon, hw, hz⟩, q⟩ := h
  have hz : z.natAbs < 2 ^ 140 := hz
  exact r_retV ((x_leLt (subI (xn 0) (g_bound T hon (xv 0))) (mulI (xn 2) (xv 1) (mulx_ok (a := 2) (b := 140) (by decide) hz (by decide))) (g_bound T hon (xv 0))).to (congrArg V.bl (fit_is hw.pos z))) q
end
section
variable {X : Cx} {σ : St} {H : Hp} {e1 e2 : Expr} {p1 pos : Pos} {o : On} {p : Addr} {k : Nat} {z : Int}
theorem c_fit (T : Top X.K X.mg) (hr : Room k X.A) (h : OnAt X.K o p H) (hw : Wd o.w) (hz : z.natAbs < 2 ^ 140) (h1 : Is X σ H e1 (.ref p)) (h2 : Is X σ H e2 (.int z)) (hk : 1 ≤ k := by decide) (hg : Gl X "does_fit" := by rfl)
    (s1 : starEach [e1, e2] X.env = (false, eval e1 X.env) :: starEach [e2] X.env := by rfl) (s2 : starEach [e2] X.env = (false, eval e2 X.env) :: starEach [] X.env := by rfl) (hpl : (backTo pos (starEach [e2] X.env)).any (·.1) = false := by rfl) : Is X σ H (.Call (.Name "does_fit" p1) [e1, e2] [] pos) (.bl (FwOps.inSigned o.w z)) :=
  x_pv (has_does_fit T) (hr.mono hk) (p, o, z) (ac h1 (a1 h2 s2) s1) (fun H1 e1 => ⟨h.mono e1, hw, hz⟩) hg (by decide) s1 hpl
end
section
variable {P : Program} {w : World} {K : PySem.W.Frag} {mg : Str → Option Value} {base : Heap}
theorem div_bd {n w : Nat} (hw : Wd w) : CDivW (n : Int) ((2 ^ w : Nat) : Int) := div_ok (b := 65) (two_pos w) (Nat.pow_lt_pow_right (by decide) (by have := hw.le; omega)) (by decide) (by decide)
theorem mul_abs {x y : Int} {a b : Nat} (h1 : x.natAbs < 2 ^ a) (h2 : y.natAbs < 2 ^ b) : (x * y).natAbs < 2 ^ (a + b) := by
  rw [Int.natAbs_mul, Nat.pow_add]
  exact Nat.mul_lt_mul_of_lt_of_lt h1 h2
theorem has_multiply (T : Top K mg) : Has P w K mg base 6 "multiply" ["on"] (spOp K fun o => (o.a * o.b % 2 ^ o.w, o.a * o.b / 2 ^ o.w, [(FwOps.CARRY, decide (2 ^ o.w ≤ o.a * o.b)), (FwOps.OVER, decide (2 ^ o.w ≤ o.a * o.b))])) := by
  refine has_of d_multiply T.f_multiply T.g_multiply sc_multiply (fun _ _ _ _ _ _ us hl => match us, hl with | [_], _ => rfl) (pr_len fun _ => rfl) fun cdv A outer s H vs Q E hr h => ?_
  obtain ⟨⟨p, o⟩, rfl, ⟨hon, g⟩, q⟩ := h
  have g : Good o := g
  refine r_set 1 (mulN (g_a T hon (xv 0)) (g_b T hon (xv 0)) (mul_ok (a := 64) (b := 64) (pow_le g.w g.a) (pow_le g.w g.b) (by decide))) ?_ sc_multiply.nd
  refine r_set 2 (divN (xv 1) (g_bound T hon (xv 0)) (div_bd g.w)) ?_ sc_multiply.nd
  have e := congrArg V.bl (mul_flag o.w (o.a * o.b))
  exact r_ret (x_res (modN (xv 1) (g_bound T hon (xv 0)) (two_pos _)) (xv 2) (x_flags (fa_cons (x_flag (xgn 0 T.g_CARRY) ((neN (xv 2) (xn 0)).to e)) (fa_cons (x_flag (xgn 11 T.g_OVER) ((neN (xv 2) (xn 0)).to e)) fa_nil)) (show 2 ≤ 1000 by decide))) q
theorem has_multiply_signed (T : Top K mg) : Has P w K mg base 6 "multiply_signed" ["on"] (spOp K fun o => (FwOps.wrap (2 * o.w) (FwOps.signed o.w o.a * FwOps.signed o.w o.b) % 2 ^ o.w, FwOps.wrap (2 * o.w) (FwOps.signed o.w o.a * FwOps.signed o.w o.b) / 2 ^ o.w,
    [(FwOps.CARRY, !FwOps.inSigned o.w (FwOps.signed o.w o.a * FwOps.signed o.w o.b)), (FwOps.OVER, !FwOps.inSigned o.w (FwOps.signed o.w o.a * FwOps.signed o.w o.b))])) := by
  refine has_of d_multiply_signed T.f_multiply_signed T.g_multiply_signed sc_multiply_signed (fun _ _ _ _ _ _ us hl => match us, hl with | [_], _ => rfl) (pr_len fun _ => rfl) fun cdv A outer s H vs Q E hr h => ?_
  obtain ⟨⟨p, o⟩, rfl, ⟨hon, g⟩, q⟩ := h
  have g : Good o := g
  have ba := signed_64 g.w.pos g.w.le g.a
  have bb := signed_64 g.w.pos g.w.le g.b
  have hb : 2 ^ o.w < 2 ^ 65 := Nat.pow_lt_pow_right (by decide) (by have := g.w.le; omega)
  have hp := two_pos o.w
  refine r_set 1 (mulI (c_signed T hr hon g.w g.a (xv 0) (g_a T hon (xv 0))) (c_signed T hr hon g.w g.b (xv 0) (g_b T hon (xv 0))) (mulx_ok (a := 64) (b := 64) ba bb (by decide))) ?_ sc_multiply_signed.nd
  refine r_set 2 (v := nv (FwOps.wrap (2 * o.w) (FwOps.signed o.w o.a * FwOps.signed o.w o.b))) ((modI (xv 1) (mulN (g_bound T hon (xv 0)) (g_bound T hon (xv 0)) (mul_ok hb hb (by decide))) (by have := Nat.mul_pos hp hp; omega)).to (congrArg V.int (wrap_two _ _))) ?_ sc_multiply_signed.nd
  refine r_set 3 (x_not (c_fit T hr hon g.w (Nat.lt_of_lt_of_le (mul_abs ba bb) (by decide)) (xv 0) (xv 1))) ?_ sc_multiply_signed.nd
  exact r_ret (x_res (modN (xv 2) (g_bound T hon (xv 0)) hp) (divN (xv 2) (g_bound T hon (xv 0)) (div_bd g.w)) (x_flags (fa_cons (x_flag (xgn 0 T.g_CARRY) (xv 3)) (fa_cons (x_flag (xgn 11 T.g_OVER) (xv 3)) fa_nil)) (show 2 ≤ 1000 by decide))) q
theorem has_divide (T : Top K mg) : HasX P w K mg base 6 "divide" ["on"] (spOpX K fun o => FwOps.div o.w o.a o.b o.c) := by
  refine hasX_of d_divide T.f_divide T.g_divide sc_divide (fun _ _ _ _ _ _ us hl => match us, hl with | [_], _ => rfl) opX_len fun cdv A outer s H vs Q E hr h => ?_
  obtain ⟨p, o, rfl, hon, g, q⟩ := h
  have q : Out K (FwOps.div o.w o.a o.b o.c) H Q E := q
  have g : Good o := g
  have hb : 2 ^ o.w < 2 ^ 65 := Nat.pow_lt_pow_right (by decide) (by have := g.w.le; omega)
  have gb := pow_le g.w g.b
  unfold FwOps.div at q
  refine r_when (k := decide (o.b ≤ o.c)) ((t_or2 (teqN (g_b T hon (xv 0)) (xn 0)) fun _ => tgeN (g_c T hon (xv 0)) (g_b T hon (xv 0))).to ?_) (fun hk => ?_) fun hk => ?_
  · by_cases h : o.b ≤ o.c
    · rw [decide_eq_true h, Bool.or_true]
    · rw [decide_eq_false h, Bool.or_false]
      exact decide_eq_false (by omega)
  · rw [if_pos (of_decide_eq_true hk)] at q
    exact r_raise T hr (takes_of rfl rfl rfl rfl) (xgi T.g_NO_QUOTIENT) q
  · have hn := of_decide_eq_false hk
    rw [if_neg hn] at q
    have h0 : 0 < o.b := by omega
    have hd : CDivW ((o.c * 2 ^ o.w + o.a : Nat) : Int) (o.b : Int) := div_ok (b := 64) h0 gb (by decide) (by decide)
    refine r_set 1 (addN (mulN (g_c T hon (xv 0)) (g_bound T hon (xv 0)) (mul_ok (pow_le g.w g.c) hb (by decide))) (g_a T hon (xv 0))) ?_ sc_divide.nd
    exact r_ret (x_res (divN (xv 1) (g_b T hon (xv 0)) hd) (modN (xv 1) (g_b T hon (xv 0)) h0) x_none) q
theorem div_abs {n d : Int} {b : Nat} (h : n.natAbs < 2 ^ b) : (n.tdiv d).natAbs < 2 ^ b := Nat.lt_of_le_of_lt (by rw [Int.natAbs_tdiv]; exact Nat.div_le_self _ _) h
theorem has_divide_signed (T : Top K mg) : HasX P w K mg base 6 "divide_signed" ["on"] (spOpX K fun o => FwOps.idiv o.w o.a o.b o.c) := by
  refine hasX_of d_divide_signed T.f_divide_signed T.g_divide_signed sc_divide_signed (fun _ _ _ _ _ _ us hl => match us, hl with | [_], _ => rfl) opX_len fun cdv A outer s H vs Q E hr h => ?_
  obtain ⟨p, o, rfl, hon, g, q⟩ := h
  have q : Out K (FwOps.idiv o.w o.a o.b o.c) H Q E := q
  have g : Good o := g
  have hb : 2 ^ o.w < 2 ^ 65 := Nat.pow_lt_pow_right (by decide) (by have := g.w.le; omega)
  have hp := two_pos o.w
  unfold FwOps.idiv at q
  dsimp only at q
  refine r_when (teqN (g_b T hon (xv 0)) (xn 0)) (fun hk => ?_) fun hk => ?_
  · rw [if_pos ((signed_zero g.w.pos g.b).mpr (of_decide_eq_true hk))] at q
    exact r_raise T hr (takes_of rfl rfl rfl rfl) (xgi T.g_NO_QUOTIENT) q
  · have hn := of_decide_eq_false hk
    rw [if_neg fun z => hn ((signed_zero g.w.pos g.b).mp z)] at q
    have bc := signed_64 g.w.pos g.w.le g.c
    have bb := signed_64 g.w.pos g.w.le g.b
    have ba := pow_le g.w g.a
    have hnn : FwOps.signed o.w o.b ≠ 0 := fun z => hn ((signed_zero g.w.pos g.b).mp z)
    refine r_set 1 (v := .int (FwOps.signed (2 * o.w) (o.c * 2 ^ o.w + o.a))) ((addI (mulI (c_signed T hr hon g.w g.c (xv 0) (g_c T hon (xv 0))) (g_bound T hon (xv 0)) (mulx_ok (a := 64) (b := 65) bc (by omega) (by decide))) (g_a T hon (xv 0))).to (congrArg V.int (signed_wide g.w.pos g.a g.c))) ?_ sc_divide_signed.nd
    have hn1 : (FwOps.signed (2 * o.w) (o.c * 2 ^ o.w + o.a)).natAbs < 2 ^ 130 := by
      rw [← signed_wide g.w.pos g.a g.c]
      have m := mul_abs bc (show (((2 ^ o.w : Nat) : Int)).natAbs < 2 ^ 65 by omega)
      omega
    generalize hN : FwOps.signed (2 * o.w) (o.c * 2 ^ o.w + o.a) = n at q hn1
    refine r_set 2 (c_signed T hr hon g.w g.b (xv 0) (g_b T hon (xv 0))) ?_ sc_divide_signed.nd
    generalize hD : FwOps.signed o.w o.b = d at q bb hnn
    have hdv : CDivW ((n.natAbs : Nat) : Int) ((d.natAbs : Nat) : Int) := div_ok (b := 64) (by omega) bb (by decide) (by decide)
    refine r_set 3 (divN (x_abs T.n_abs (xv 1)) (x_abs T.n_abs (xv 2)) hdv) ?_ sc_divide_signed.nd
    have qz := div_abs (d := d) hn1
    have key : ∀ (z : Int) (D : Ends), z = n.tdiv d → D.rt = Q → Runs (cxOf (L2.CX P w) P w K mg base ["on", "whole", "by", "quotient"] d_divide_signed.qual d_divide_signed.scope (He.ga K "divide_signed") cdv A outer s H E) H (d_divide_signed.body.drop 5) D [some (.ref p), some (.int n), some (.int d), some (.int z)] := by
      intro z D hz hDr
      subst hz
      refine r_when (t_not (t_val (c_fit T hr hon g.w (Nat.lt_of_lt_of_le qz (by decide)) (xv 0) (xv 3)))) (fun hk => ?_) fun hk => ?_
      · have hf : FwOps.inSigned o.w (n.tdiv d) = false := by simpa using hk
        rw [if_neg (by rw [hf]; decide)] at q
        exact r_raise T hr (takes_of rfl rfl rfl rfl) (xgi T.g_NO_QUOTIENT) q
      · have hf : FwOps.inSigned o.w (n.tdiv d) = true := by simpa using hk
        rw [if_pos hf] at q
        have bi : (0 : Int) < ((2 ^ o.w : Nat) : Int) := by omega
        refine r_ret (x_res ((modI (xv 3) (g_bound T hon (xv 0)) bi).to (congrArg V.int (wrap_is _ _))) ((modI (subI (xv 1) (mulI (xv 3) (xv 2) (mulx_ok (a := 130) (b := 64) qz bb (by decide)))) (g_bound T hon (xv 0)) bi).to (congrArg V.int (by rw [tmod_is]; exact wrap_is _ _))) x_none) ?_
        rw [hDr]
        exact q
    refine r_if (k := (decide (n < 0) != decide (d < 0))) (tneB (ltI (xv 1) (xn 0)) (ltI (xv 2) (xn 0))) (fun hk => ?_) fun hk => ?_
    · refine r_set 3 (subI (xn 0) (xv 3)) (r_nil fun H1 e1 => ?_) sc_divide_signed.nd
      refine (key (0 - ((n.natAbs / d.natAbs : Nat) : Int)) _ ?_ rfl) H1 e1
      have t := tdiv_is n d
      rw [if_pos hk] at t
      exact t
    · refine r_nil fun H1 e1 => ?_
      refine (key ((n.natAbs / d.natAbs : Nat) : Int) _ ?_ rfl) H1 e1
      have t := tdiv_is n d
      rw [if_neg (by rw [hk]; decide)] at t
      exact t
end
/-! ### shifts.py -/
theorem carry_ne (x i f : Nat) : decide (x / 2 ^ i % 2 ≠ kOf f) = (FwOps.bitAt x i != FwOps.bitAt f FwOps.CARRY) := by
  unfold kOf FwOps.bitAt
  rcases Nat.mod_two_eq_zero_or_one (x / 2 ^ i) with h | h <;> rcases Nat.mod_two_eq_zero_or_one (f / 2 ^ FwOps.CARRY) with k | k <;> rw [h, k] <;> rfl
theorem kOf_le (f : Nat) : kOf f < 2 := by
  unfold kOf
  split <;> decide
theorem add_carry_lt {w a f : Nat} (h : a < 2 ^ w) : a + kOf f * 2 ^ w < 2 ^ (w + 1) := by
  have k := kOf_le f
  rw [Nat.pow_succ]
  have m := Nat.mul_le_mul_right (2 ^ w) (show kOf f ≤ 1 by omega)
  omega
section
variable {P : Program} {w : World} {K : PySem.W.Frag} {mg : Str → Option Value} {base : Heap}
abbrev spSteps (K : PySem.W.Frag) : Sp := Pv (ι := Addr × On × Nat) (fun i => [.ref i.1, nv i.2.2]) (fun i H => OnAt K i.2.1 i.1 H) (fun i => nv (FwOps.count i.2.1.w i.2.2))
theorem has_steps_by (T : Top K mg) : Has P w K mg base 1 "steps_by" ["on", "number"] (spSteps K) := by
  refine has_of d_steps_by T.f_steps_by T.g_steps_by sc_steps_by (fun _ _ _ _ _ _ us hl => match us, hl with | [_, _], _ => rfl) (pv_len fun _ => rfl) fun cdv A outer s H vs Q E hr h => ?_
  obtain ⟨⟨p, o, n⟩, rfl, hon, q⟩ := h
  have q : ∀ H2, Ex H H2 → Q (nv (FwOps.count o.w n)) H2 := q
  unfold FwOps.count at q
  refine r_when (teqN (g_width T hon (xv 0)) (xn 64)) (fun hk => ?_) fun hk => ?_
  · rw [if_pos (of_decide_eq_true hk)] at q
    exact r_retV (modN (xv 1) (xn 64) (by decide)) q
  · rw [if_neg (of_decide_eq_false hk)] at q
    exact r_retV (modN (xv 1) (xn 32) (by decide)) q
abbrev spOnly : Sp := Pr (ι := Nat × Bool) (fun i => [nv i.1, .bl i.2]) (fun _ _ => True) (fun i => GL (FwOps.onlyIf (decide (i.1 = 1)) (FwOps.OVER, i.2)))
theorem has_only_by_one (T : Top K mg) : Has P w K mg base 1 "only_by_one" ["steps", "truth"] spOnly := by
  refine has_of d_only_by_one T.f_only_by_one T.g_only_by_one sc_only_by_one (fun _ _ _ _ _ _ us hl => match us, hl with | [_, _], _ => rfl) (pr_len fun _ => rfl) fun cdv A outer s H vs Q E hr h => ?_
  obtain ⟨⟨n, t⟩, rfl, _, q⟩ := h
  have q : ∀ (v : V) (H2 : Hp), Ex H H2 → GL (FwOps.onlyIf (decide (n = 1)) (FwOps.OVER, t)) v H2 → Q v H2 := q
  unfold FwOps.onlyIf at q
  refine r_when (teqN (xv 0) (xn 1)) (fun hk => ?_) fun hk => ?_
  · rw [if_pos hk] at q
    exact r_ret (x_flags (fa_cons (x_flag (xgn 11 T.g_OVER) (xv 1)) fa_nil) (show 1 ≤ 1000 by decide)) q
  · rw [if_neg (by rw [hk]; decide)] at q
    exact r_ret x_none q
abbrev spTurned : Sp := Pv (ι := Nat × Nat × Nat) (fun i => [nv i.1, nv i.2.1, nv i.2.2]) (fun i _ => 1 ≤ i.2.2 ∧ i.2.2 ≤ 65 ∧ i.1 < 2 ^ i.2.2) (fun i => nv (FwOps.turned i.2.2 i.1 (i.2.1 % i.2.2)))
theorem has_turned_left (T : Top K mg) : Has P w K mg base 1 "turned_left" ["number", "steps", "width"] spTurned := by
  refine has_of d_turned_left T.f_turned_left T.g_turned_left sc_turned_left (fun _ _ _ _ _ _ us hl => match us, hl with | [_, _, _], _ => rfl) (pv_len fun _ => rfl) fun cdv A outer s H vs Q E hr h => ?_
  obtain ⟨⟨x, n, W⟩, rfl, ⟨h1, h2, hx⟩, q⟩ := h
  have h1 : 1 ≤ W := h1
  have h2 : W ≤ 65 := h2
  have hx : x < 2 ^ W := hx
  have hh : n % W < W := Nat.mod_lt _ h1
  have hx2 : x < 2 ^ 65 := Nat.lt_of_lt_of_le hx (Nat.pow_le_pow_right (by decide) h2)
  refine r_set 3 (modN (xv 1) (xv 2) h1) ?_ sc_turned_left.nd
  refine r_set 4 (oneShl (xn 1) (xv 2) (by omega)) ?_ sc_turned_left.nd
  exact r_retV ((addN (modN (shlN (xv 0) (xv 3) (shl_ok (n := 65) (by omega) (by omega))) (xv 4) (two_pos W)) (shrN (xv 0) (subN (xv 2) (xv 3) (by omega)))).to (congrArg nv (turned_is hh hx))) q
end
section
variable {X : Cx} {σ : St} {H : Hp} {e1 e2 e3 : Expr} {p1 pos : Pos} {o : On} {p : Addr} {k x n m : Nat} {t : Bool}
theorem c_steps (T : Top X.K X.mg) (hr : Room k X.A) (h : OnAt X.K o p H) (h1 : Is X σ H e1 (.ref p)) (h2 : Is X σ H e2 (nv n)) (hk : 1 ≤ k := by decide) (hg : Gl X "steps_by" := by rfl)
    (s1 : starEach [e1, e2] X.env = (false, eval e1 X.env) :: starEach [e2] X.env := by rfl) (s2 : starEach [e2] X.env = (false, eval e2 X.env) :: starEach [] X.env := by rfl) (hpl : (backTo pos (starEach [e2] X.env)).any (·.1) = false := by rfl) : Is X σ H (.Call (.Name "steps_by" p1) [e1, e2] [] pos) (nv (FwOps.count o.w n)) :=
  x_pv (has_steps_by T) (hr.mono hk) (p, o, n) (ac h1 (a1 h2 s2) s1) (fun H1 e1 => h.mono e1) hg (by decide) s1 hpl
theorem c_only (T : Top X.K X.mg) (hr : Room k X.A) (h1 : Is X σ H e1 (nv n)) (h2 : Is X σ H e2 (.bl t)) (hk : 1 ≤ k := by decide) (hg : Gl X "only_by_one" := by rfl)
    (s1 : starEach [e1, e2] X.env = (false, eval e1 X.env) :: starEach [e2] X.env := by rfl) (s2 : starEach [e2] X.env = (false, eval e2 X.env) :: starEach [] X.env := by rfl) (hpl : (backTo pos (starEach [e2] X.env)).any (·.1) = false := by rfl) : Gets X σ H (.Call (.Name "only_by_one" p1) [e1, e2] [] pos) (GL (FwOps.onlyIf (decide (n = 1)) (FwOps.OVER, t))) :=
  x_pr (has_only_by_one T) (hr.mono hk) (n, t) (ac h1 (a1 h2 s2) s1) (fun _ _ => trivial) hg (by decide) s1 hpl
theorem c_turned (T : Top X.K X.mg) (hr : Room k X.A) (g1 : 1 ≤ m) (g2 : m ≤ 65) (g3 : x < 2 ^ m) (h1 : Is X σ H e1 (nv x)) (h2 : Is X σ H e2 (nv n)) (h3 : Is X σ H e3 (nv m)) (hk : 1 ≤ k := by decide) (hg : Gl X "turned_left" := by rfl)
    (s1 : starEach [e1, e2, e3] X.env = (false, eval e1 X.env) :: starEach [e2, e3] X.env := by rfl) (s2 : starEach [e2, e3] X.env = (false, eval e2 X.env) :: starEach [e3] X.env := by rfl) (s3 : starEach [e3] X.env = (false, eval e3 X.env) :: starEach [] X.env := by rfl) (hpl : (backTo pos (starEach [e2, e3] X.env)).any (·.1) = false := by rfl) : Is X σ H (.Call (.Name "turned_left" p1) [e1, e2, e3] [] pos) (nv (FwOps.turned m x (n % m))) :=
  x_pv (has_turned_left T) (hr.mono hk) (x, n, m) (ac h1 (ac h2 (a1 h3 s3) s2) s1) (fun _ _ => ⟨g1, g2, g3⟩) hg (by decide) s1 hpl
end
section
variable {P : Program} {w : World} {K : PySem.W.Frag} {mg : Str → Option Value} {base : Heap}
abbrev spWithCarry (K : PySem.W.Frag) : Sp := Pv (ι := Addr × On) (fun i => [.ref i.1]) (fun i H => OnAt K i.2 i.1 H ∧ Wd i.2.w) (fun i => nv (i.2.a + kOf i.2.f * 2 ^ i.2.w))
theorem has_with_carry (T : Top K mg) : Has P w K mg base 3 "with_carry" ["on"] (spWithCarry K) := by
  refine has_of d_with_carry T.f_with_carry T.g_with_carry sc_with_carry (fun _ _ _ _ _ _ us hl => match us, hl with | [_], _ => rfl) (pv_len fun _ => rfl) fun cdv A outer s H vs Q E hr h => ?_
  obtain ⟨⟨p, o⟩, rfl, ⟨hon, hw⟩, q⟩ := h
  have hw : Wd o.w := hw
  have hl := hw.le
  have hk := kOf_le o.f
  have hs : CShl ((kOf o.f : Nat) : Int) ((o.w : Nat) : Int) := shl_ok (n := 1) (by omega) (by omega)
  exact r_retV (addN (g_a T hon (xv 0)) (shlN (c_carry T hr hon (xv 0)) (g_width T hon (xv 0)) hs)) q
end
section
variable {X : Cx} {σ : St} {H : Hp} {e1 : Expr} {p1 pos : Pos} {o : On} {p : Addr} {k : Nat}
theorem c_withCarry (T : Top X.K X.mg) (hr : Room k X.A) (h : OnAt X.K o p H) (hw : Wd o.w) (h1 : Is X σ H e1 (.ref p)) (hk : 3 ≤ k := by decide) (hg : Gl X "with_carry" := by rfl)
    (s1 : starEach [e1] X.env = (false, eval e1 X.env) :: starEach [] X.env := by rfl) (hpl : (backTo pos (starEach [] X.env)).any (·.1) = false := by rfl) : Is X σ H (.Call (.Name "with_carry" p1) [e1] [] pos) (nv (o.a + kOf o.f * 2 ^ o.w)) :=
  x_pv (has_with_carry T) (hr.mono hk) (p, o) (a1 h1 s1) (fun H1 e1 => ⟨h.mono e1, hw⟩) hg (by decide) s1 hpl
end
theorem out_ok {K : PySem.W.Frag} {lo hi : Nat} {l : List Giv} {H : Hp} {Q : VK} {E : XK} (q : Out K (.ok (lo, hi, l)) H Q E) : ∀ v H2, Ex H H2 → Res lo hi l v H2 → Q v H2 := q
section
variable {P : Program} {w : World} {K : PySem.W.Frag} {mg : Str → Option Value} {base : Heap}
theorem only_len (n : Nat) (g : FwOps.Given) : (FwOps.onlyIf (decide (n = 1)) g).length ≤ 1 := by
  unfold FwOps.onlyIf
  split
  · exact Nat.le_refl 1
  · exact Nat.zero_le 1
theorem has_shift_left (T : Top K mg) : Has P w K mg base 6 "shift_left" ["on"] (spOpX K fun o => FwOps.shl o.w (FwOps.count o.w o.b) o.a) := by
  refine has_of d_shift_left T.f_shift_left T.g_shift_left sc_shift_left (fun _ _ _ _ _ _ us hl => match us, hl with | [_], _ => rfl) opX_len fun cdv A outer s H vs Q E hr h => ?_
  obtain ⟨p, o, rfl, hon, g, q⟩ := h
  have q : Out K (FwOps.shl o.w (FwOps.count o.w o.b) o.a) H Q E := q
  have g : Good o := g
  have hn := count_lt o.w o.b
  have ha := pow_le g.w g.a
  have hp := two_pos o.w
  refine r_set 1 (c_steps T hr hon (xv 0) (g_b T hon (xv 0))) ?_ sc_shift_left.nd
  generalize FwOps.count o.w o.b = n at q hn
  unfold FwOps.shl FwOps.shifted FwOps.gives at q
  dsimp only at q
  refine r_when (teqN (xv 1) (xn 0)) (fun hk => ?_) fun hk => ?_
  · rw [if_pos (of_decide_eq_true hk)] at q
    exact r_ret (x_res (g_a T hon (xv 0)) (xn 0) x_none) (out_ok q)
  · have h0 := of_decide_eq_false hk
    rw [if_neg h0] at q
    replace q := out_ok q
    refine r_set 2 (modN (shlN (g_a T hon (xv 0)) (xv 1) (shl_ok (n := 64) (by omega) (by omega))) (g_bound T hon (xv 0)) hp) ?_ sc_shift_left.nd
    refine r_setG 3 (c_shows T hr hon g.w (xv 0) (xv 2)) (fun v H1 k1 hv => ?_) sc_shift_left.nd
    obtain ⟨gl, rfl, hf⟩ := hv
    have hon1 := hon.mono k1
    refine r_if (tltN (xv 1) (g_width T hon1 (xv 0))) (fun hk => ?_) fun hk => ?_
    · have hlt := of_decide_eq_true hk
      rw [hk] at q
      refine r_set 4 (c_bit T hr (g_a T hon1 (xv 0)) (subN (g_width T hon1 (xv 0)) (xv 1) (Nat.le_of_lt hlt))) ?_ sc_shift_left.nd
      refine r_setG 3 (x_cat (x_cat (x_vF (xv 3) hf) (x_flags (fa_cons (x_flag (xgn 0 T.g_CARRY) (eqN (xv 4) (xn 1))) fa_nil) (show 1 ≤ 1000 by decide)) (show 3 + 1 ≤ 1000 by decide)) (c_only T hr (xv 1) ((neN (c_top T hr hon1 g.w (xv 0) (xv 2)) (xv 4)).to (congrArg V.bl (bit_ne _ _ _ _)))) (Nat.le_trans (Nat.add_le_add_left (only_len _ _) _) (show 3 + 1 + 1 ≤ 1000 by decide))) (fun v H2 k2 hv => ?_) sc_shift_left.nd
      obtain ⟨g2, rfl, hf2⟩ := hv
      refine r_nil fun H3 k3 => ?_
      refine (r_ret (x_res (xv 2) (xn 0) (x_vF (xv 3) (hf2.mono k3))) fun v H4 k4 hv => q v H4 (((k1.trans k2).trans k3).trans k4) ?_).sw
      rw [List.append_assoc] at hv
      rw [one_same (n := n) (x := (FwOps.OVER, FwOps.bitAt (o.a * 2 ^ n % 2 ^ o.w) (o.w - 1) != FwOps.bitAt o.a (o.w - 1))) (y := (FwOps.OVER, FwOps.bitAt (o.a * 2 ^ n % 2 ^ o.w) (o.w - 1) != FwOps.bitAt o.a (o.w - n))) fun h => by rw [h]]
      exact hv
    · have hge := of_decide_eq_false hk
      have hw8 := g.w.ge
      rw [hk, one_if (show n ≠ 1 by omega)] at q
      refine r_nil fun H3 k3 => ?_
      refine (r_ret (x_res (xv 2) (xn 0) (x_vF (xv 3) (hf.mono k3))) fun v H4 k4 hv => q v H4 ((k1.trans k3).trans k4) ?_).sw
      exact hv
theorem has_shift_right (T : Top K mg) : Has P w K mg base 6 "shift_right" ["on"] (spOpX K fun o => FwOps.shr o.w (FwOps.count o.w o.b) o.a) := by
  refine has_of d_shift_right T.f_shift_right T.g_shift_right sc_shift_right (fun _ _ _ _ _ _ us hl => match us, hl with | [_], _ => rfl) opX_len fun cdv A outer s H vs Q E hr h => ?_
  obtain ⟨p, o, rfl, hon, g, q⟩ := h
  have q : Out K (FwOps.shr o.w (FwOps.count o.w o.b) o.a) H Q E := q
  have g : Good o := g
  refine r_set 1 (c_steps T hr hon (xv 0) (g_b T hon (xv 0))) ?_ sc_shift_right.nd
  generalize FwOps.count o.w o.b = n at q
  unfold FwOps.shr FwOps.shifted FwOps.gives at q
  refine r_when (teqN (xv 1) (xn 0)) (fun hk => ?_) fun hk => ?_
  · rw [if_pos (of_decide_eq_true hk)] at q
    exact r_ret (x_res (g_a T hon (xv 0)) (xn 0) x_none) (out_ok q)
  · have h0 := of_decide_eq_false hk
    rw [if_neg h0] at q
    replace q := out_ok q
    refine r_set 2 (shrN (g_a T hon (xv 0)) (xv 1)) ?_ sc_shift_right.nd
    refine r_setG 3 (c_shows T hr hon g.w (xv 0) (xv 2)) (fun v H1 k1 hv => ?_) sc_shift_right.nd
    obtain ⟨gl, rfl, hf⟩ := hv
    have hon1 := hon.mono k1
    refine r_if (tltN (xv 1) (g_width T hon1 (xv 0))) (fun hk => ?_) fun hk => ?_
    · have hlt := of_decide_eq_true hk
      rw [hk] at q
      refine r_setG 3 (x_cat (x_cat (x_vF (xv 3) hf) (x_flags (fa_cons (x_flag (xgn 0 T.g_CARRY) (eqN (c_bit T hr (g_a T hon1 (xv 0)) (subN (xv 1) (xn 1) (by omega))) (xn 1))) fa_nil) (show 1 ≤ 1000 by decide)) (show 3 + 1 ≤ 1000 by decide)) (c_only T hr (xv 1) (eqN (c_top T hr hon1 g.w (xv 0) (g_a T hon1 (xv 0))) (xn 1))) (Nat.le_trans (Nat.add_le_add_left (only_len _ _) _) (show 3 + 1 + 1 ≤ 1000 by decide))) (fun v H2 k2 hv => ?_) sc_shift_right.nd
      obtain ⟨g2, rfl, hf2⟩ := hv
      refine r_nil fun H3 k3 => ?_
      refine (r_ret (x_res (xv 2) (xn 0) (x_vF (xv 3) (hf2.mono k3))) fun v H4 k4 hv => q v H4 (((k1.trans k2).trans k3).trans k4) ?_).sw
      rw [List.append_assoc] at hv
      exact hv
    · have hge := of_decide_eq_false hk
      have hw8 := g.w.ge
      rw [hk, one_if (show n ≠ 1 by omega)] at q
      refine r_nil fun H3 k3 => ?_
      exact (r_ret (x_res (xv 2) (xn 0) (x_vF (xv 3) (hf.mono k3))) fun v H4 k4 hv => q v H4 ((k1.trans k3).trans k4) hv).sw
theorem has_shift_signed (T : Top K mg) : Has P w K mg base 6 "shift_signed" ["on"] (spOpX K fun o => FwOps.sar o.w (FwOps.count o.w o.b) o.a) := by
  refine has_of d_shift_signed T.f_shift_signed T.g_shift_signed sc_shift_signed (fun _ _ _ _ _ _ us hl => match us, hl with | [_], _ => rfl) opX_len fun cdv A outer s H vs Q E hr h => ?_
  obtain ⟨p, o, rfl, hon, g, q⟩ := h
  have q : Out K (FwOps.sar o.w (FwOps.count o.w o.b) o.a) H Q E := q
  have g : Good o := g
  have hp := two_pos o.w
  refine r_set 1 (c_steps T hr hon (xv 0) (g_b T hon (xv 0))) ?_ sc_shift_signed.nd
  generalize FwOps.count o.w o.b = n at q
  unfold FwOps.sar FwOps.shifted FwOps.gives at q
  refine r_when (teqN (xv 1) (xn 0)) (fun hk => ?_) fun hk => ?_
  · rw [if_pos (of_decide_eq_true hk)] at q
    exact r_ret (x_res (g_a T hon (xv 0)) (xn 0) x_none) (out_ok q)
  · have h0 := of_decide_eq_false hk
    rw [if_neg h0] at q
    replace q := out_ok q
    refine r_set 2 (c_signed T hr hon g.w g.a (xv 0) (g_a T hon (xv 0))) ?_ sc_shift_signed.nd
    refine r_set 3 (v := nv (FwOps.wrap o.w (FwOps.signed o.w o.a / 2 ^ n))) ((modI (shrI (xv 2) (xv 1)) (g_bound T hon (xv 0)) (by omega)).to (congrArg V.int (wrap_is _ _))) ?_ sc_shift_signed.nd
    refine r_setG 4 (x_cat (x_cat (c_shows T hr hon g.w (xv 0) (xv 3)) (x_flags (fa_cons (x_flag (xgn 0 T.g_CARRY) (eqI (c_bitI T hr (xv 2) (subN (xv 1) (xn 1) (by omega))) xi)) fa_nil) (show 1 ≤ 1000 by decide)) (show 3 + 1 ≤ 1000 by decide)) (c_only T hr (xv 1) xb) (Nat.le_trans (Nat.add_le_add_left (only_len _ _) _) (show 3 + 1 + 1 ≤ 1000 by decide))) (fun v H1 k1 hv => ?_) sc_shift_signed.nd
    obtain ⟨g2, rfl, hf2⟩ := hv
    refine r_ret (x_res (xv 3) (xn 0) (x_vF (xv 4) hf2)) fun v H2 k2 hv => q v H2 (k1.trans k2) ?_
    rw [List.append_assoc] at hv
    exact hv
theorem has_turn_left (T : Top K mg) : Has P w K mg base 6 "turn_left" ["on"] (spOpX K fun o => FwOps.rol o.w (FwOps.count o.w o.b) o.a) := by
  refine has_of d_turn_left T.f_turn_left T.g_turn_left sc_turn_left (fun _ _ _ _ _ _ us hl => match us, hl with | [_], _ => rfl) opX_len fun cdv A outer s H vs Q E hr h => ?_
  obtain ⟨p, o, rfl, hon, g, q⟩ := h
  have q : Out K (FwOps.rol o.w (FwOps.count o.w o.b) o.a) H Q E := q
  have g : Good o := g
  refine r_set 1 (c_steps T hr hon (xv 0) (g_b T hon (xv 0))) ?_ sc_turn_left.nd
  generalize FwOps.count o.w o.b = n at q
  unfold FwOps.rol FwOps.turnedBy FwOps.gives at q
  dsimp only at q
  refine r_when (teqN (xv 1) (xn 0)) (fun hk => ?_) fun hk => ?_
  · rw [if_pos (of_decide_eq_true hk)] at q
    exact r_ret (x_res (g_a T hon (xv 0)) (xn 0) x_none) (out_ok q)
  · have h0 := of_decide_eq_false hk
    rw [if_neg h0] at q
    replace q := out_ok q
    refine r_set 2 (c_turned T hr g.w.pos (Nat.le_trans g.w.le (by decide)) g.a (g_a T hon (xv 0)) (xv 1) (g_width T hon (xv 0))) ?_ sc_turn_left.nd
    generalize FwOps.turned o.w o.a (n % o.w) = lo at q
    refine r_set 3 (c_bit T hr (xv 2) (xn 0)) ?_ sc_turn_left.nd
    exact r_ret (x_res (xv 2) (xn 0) (x_cat (l := [(FwOps.CARRY, FwOps.bitAt lo 0)]) (x_flags (fa_cons (x_flag (xgn 0 T.g_CARRY) (eqN (xv 3) (xn 1))) fa_nil) (show 1 ≤ 1000 by decide)) (c_only T hr (xv 1) ((neN (c_top T hr hon g.w (xv 0) (xv 2)) (xv 3)).to (congrArg V.bl (bit_ne _ _ _ _)))) (Nat.le_trans (Nat.add_le_add_left (only_len _ _) _) (show 1 + 1 ≤ 1000 by decide)))) q
theorem has_turn_right (T : Top K mg) : Has P w K mg base 6 "turn_right" ["on"] (spOpX K fun o => FwOps.ror o.w (FwOps.count o.w o.b) o.a) := by
  refine has_of d_turn_right T.f_turn_right T.g_turn_right sc_turn_right (fun _ _ _ _ _ _ us hl => match us, hl with | [_], _ => rfl) opX_len fun cdv A outer s H vs Q E hr h => ?_
  obtain ⟨p, o, rfl, hon, g, q⟩ := h
  have q : Out K (FwOps.ror o.w (FwOps.count o.w o.b) o.a) H Q E := q
  have g : Good o := g
  have hw := g.w.ge
  refine r_set 1 (c_steps T hr hon (xv 0) (g_b T hon (xv 0))) ?_ sc_turn_right.nd
  generalize FwOps.count o.w o.b = n at q
  unfold FwOps.ror FwOps.turnedBy FwOps.gives at q
  dsimp only at q
  refine r_when (teqN (xv 1) (xn 0)) (fun hk => ?_) fun hk => ?_
  · rw [if_pos (of_decide_eq_true hk)] at q
    exact r_ret (x_res (g_a T hon (xv 0)) (xn 0) x_none) (out_ok q)
  · have h0 := of_decide_eq_false hk
    rw [if_neg h0] at q
    replace q := out_ok q
    have hm : n % o.w ≤ o.w := Nat.le_of_lt (Nat.mod_lt _ g.w.pos)
    refine r_set 2 (c_turned T hr g.w.pos (Nat.le_trans g.w.le (by decide)) g.a (g_a T hon (xv 0)) (subN (g_width T hon (xv 0)) (modN (xv 1) (g_width T hon (xv 0)) g.w.pos) hm) (g_width T hon (xv 0))) ?_ sc_turn_right.nd
    generalize FwOps.turned o.w o.a ((o.w - n % o.w) % o.w) = lo at q
    refine r_set 3 ((neN (c_top T hr hon g.w (xv 0) (xv 2)) (c_bit T hr (xv 2) (subN (g_width T hon (xv 0)) (xn 2) (by omega)))).to (congrArg V.bl (bit_ne _ _ _ _))) ?_ sc_turn_right.nd
    exact r_ret (x_res (xv 2) (xn 0) (x_cat (l := [(FwOps.CARRY, FwOps.bitAt lo (o.w - 1))]) (x_flags (fa_cons (x_flag (xgn 0 T.g_CARRY) (eqN (c_top T hr hon g.w (xv 0) (xv 2)) (xn 1))) fa_nil) (show 1 ≤ 1000 by decide)) (c_only T hr (xv 1) (xv 3)) (Nat.le_trans (Nat.add_le_add_left (only_len _ _) _) (show 1 + 1 ≤ 1000 by decide)))) q
theorem has_carry_left (T : Top K mg) : Has P w K mg base 6 "carry_left" ["on"] (spOpX K fun o => FwOps.rcl o.w (FwOps.count o.w o.b) o.a (kOf o.f)) := by
  refine has_of d_carry_left T.f_carry_left T.g_carry_left sc_carry_left (fun _ _ _ _ _ _ us hl => match us, hl with | [_], _ => rfl) opX_len fun cdv A outer s H vs Q E hr h => ?_
  obtain ⟨p, o, rfl, hon, g, q⟩ := h
  have q : Out K (FwOps.rcl o.w (FwOps.count o.w o.b) o.a (kOf o.f)) H Q E := q
  have g : Good o := g
  have hw := g.w.ge
  have hw2 := g.w.le
  refine r_set 1 (c_steps T hr hon (xv 0) (g_b T hon (xv 0))) ?_ sc_carry_left.nd
  generalize FwOps.count o.w o.b = n at q
  unfold FwOps.rcl FwOps.turnedBy FwOps.gives at q
  dsimp only at q
  refine r_when (teqN (xv 1) (xn 0)) (fun hk => ?_) fun hk => ?_
  · rw [if_pos (of_decide_eq_true hk)] at q
    exact r_ret (x_res (g_a T hon (xv 0)) (xn 0) x_none) (out_ok q)
  · have h0 := of_decide_eq_false hk
    rw [if_neg h0] at q
    replace q := out_ok q
    refine r_set 2 (c_turned T hr (by omega) (by omega) (add_carry_lt g.a) (c_withCarry T hr hon g.w (xv 0)) (xv 1) (addN (g_width T hon (xv 0)) (xn 1))) ?_ sc_carry_left.nd
    generalize FwOps.turned (o.w + 1) (o.a + kOf o.f * 2 ^ o.w) (n % (o.w + 1)) = x at q
    refine r_set 3 (modN (xv 2) (g_bound T hon (xv 0)) (two_pos _)) ?_ sc_carry_left.nd
    refine r_set 4 (c_bit T hr (xv 2) (g_width T hon (xv 0))) ?_ sc_carry_left.nd
    exact r_ret (x_res (xv 3) (xn 0) (x_cat (l := [(FwOps.CARRY, FwOps.bitAt x o.w)]) (x_flags (fa_cons (x_flag (xgn 0 T.g_CARRY) (eqN (xv 4) (xn 1))) fa_nil) (show 1 ≤ 1000 by decide)) (c_only T hr (xv 1) ((neN (c_top T hr hon g.w (xv 0) (xv 3)) (xv 4)).to (congrArg V.bl ((bit_ne _ _ _ _).trans (congrArg (· != FwOps.bitAt x o.w) (top_mod g.w.pos)))))) (Nat.le_trans (Nat.add_le_add_left (only_len _ _) _) (show 1 + 1 ≤ 1000 by decide)))) q
theorem has_carry_right (T : Top K mg) : Has P w K mg base 6 "carry_right" ["on"] (spOpX K fun o => FwOps.rcr o.w (FwOps.count o.w o.b) o.a (kOf o.f)) := by
  refine has_of d_carry_right T.f_carry_right T.g_carry_right sc_carry_right (fun _ _ _ _ _ _ us hl => match us, hl with | [_], _ => rfl) opX_len fun cdv A outer s H vs Q E hr h => ?_
  obtain ⟨p, o, rfl, hon, g, q⟩ := h
  have q : Out K (FwOps.rcr o.w (FwOps.count o.w o.b) o.a (kOf o.f)) H Q E := q
  have g : Good o := g
  have hw := g.w.ge
  have hw2 := g.w.le
  refine r_set 1 (c_steps T hr hon (xv 0) (g_b T hon (xv 0))) ?_ sc_carry_right.nd
  generalize FwOps.count o.w o.b = n at q
  unfold FwOps.rcr FwOps.turnedBy FwOps.gives at q
  dsimp only at q
  refine r_when (teqN (xv 1) (xn 0)) (fun hk => ?_) fun hk => ?_
  · rw [if_pos (of_decide_eq_true hk)] at q
    exact r_ret (x_res (g_a T hon (xv 0)) (xn 0) x_none) (out_ok q)
  · have h0 := of_decide_eq_false hk
    rw [if_neg h0, kOf_one] at q
    replace q := out_ok q
    have hm : n % (o.w + 1) ≤ o.w + 1 := Nat.le_of_lt (Nat.mod_lt _ (by omega))
    refine r_set 2 (addN (g_width T hon (xv 0)) (xn 1)) ?_ sc_carry_right.nd
    refine r_set 3 (c_turned T hr (by omega) (by omega) (add_carry_lt g.a) (c_withCarry T hr hon g.w (xv 0)) (subN (xv 2) (modN (xv 1) (xv 2) (by omega)) hm) (xv 2)) ?_ sc_carry_right.nd
    generalize FwOps.turned (o.w + 1) (o.a + kOf o.f * 2 ^ o.w) ((o.w + 1 - n % (o.w + 1)) % (o.w + 1)) = x at q
    refine r_set 4 ((neN (c_top T hr hon g.w (xv 0) (g_a T hon (xv 0))) (c_carry T hr hon (xv 0))).to (congrArg V.bl (carry_ne _ _ _))) ?_ sc_carry_right.nd
    exact r_ret (x_res (modN (xv 3) (g_bound T hon (xv 0)) (two_pos _)) (xn 0) (x_cat (l := [(FwOps.CARRY, FwOps.bitAt x o.w)]) (x_flags (fa_cons (x_flag (xgn 0 T.g_CARRY) (eqN (c_bit T hr (xv 3) (g_width T hon (xv 0))) (xn 1))) fa_nil) (show 1 ≤ 1000 by decide)) (c_only T hr (xv 1) (xv 4)) (Nat.le_trans (Nat.add_le_add_left (only_len _ _) _) (show 1 + 1 ≤ 1000 by decide)))) q
/-- how far a double shift goes, or its refusal -/
abbrev spDouble (K : PySem.W.Frag) : Sp := fun vs H Q E => ∃ (p : Addr) (o : On), vs = [.ref p] ∧ OnAt K o p H ∧ (if o.w < FwOps.count o.w o.c then RefE K (-2) H E else ∀ H2, Ex H H2 → Q (nv (FwOps.count o.w o.c)) H2)
theorem has_double_steps (T : Top K mg) : HasX P w K mg base 3 "double_steps" ["on"] (spDouble K) := by
  refine hasX_of d_double_steps T.f_double_steps T.g_double_steps sc_double_steps (fun _ _ _ _ _ _ us hl => match us, hl with | [_], _ => rfl) (fun vs H Q E h => ?_) fun cdv A outer s H vs Q E hr h => ?_
  · obtain ⟨p, o, rfl, _⟩ := h
    rfl
  · obtain ⟨p, o, rfl, hon, q⟩ := h
    refine r_set 1 (c_steps T hr hon (xv 0) (g_c T hon (xv 0))) ?_ sc_double_steps.nd
    generalize FwOps.count o.w o.c = n at q
    refine r_when (tgtN (xv 1) (g_width T hon (xv 0))) (fun hk => ?_) fun hk => ?_
    · rw [if_pos (of_decide_eq_true hk)] at q
      exact r_raise T hr (takes_of rfl rfl rfl rfl) (xgi T.g_TOO_FAR) q
    · rw [if_neg (of_decide_eq_false hk)] at q
      exact r_retV (xv 1) q
theorem RefE.mono {z : Int} {H H' : Hp} {E : XK} (e : Ex H H') (h : RefE K z H E) : RefE K z H' E := fun d H2 k => h d H2 (e.trans k)
theorem has_double_left (T : Top K mg) : HasX P w K mg base 6 "double_left" ["on"] (spOpX K fun o => FwOps.shld o.w (FwOps.count o.w o.c) o.a o.b) := by
  refine hasX_of d_double_left T.f_double_left T.g_double_left sc_double_left (fun _ _ _ _ _ _ us hl => match us, hl with | [_], _ => rfl) opX_len fun cdv A outer s H vs Q E hr h => ?_
  obtain ⟨p, o, rfl, hon, g, q⟩ := h
  have q : Out K (FwOps.shld o.w (FwOps.count o.w o.c) o.a o.b) H Q E := q
  have g : Good o := g
  have hn := count_lt o.w o.c
  have ha := pow_le g.w g.a
  have hp := two_pos o.w
  unfold FwOps.shld FwOps.shifted FwOps.gives at q
  dsimp only at q
  by_cases hf : o.w < FwOps.count o.w o.c
  · rw [if_pos hf] at q
    refine r_setG 1 (P := fun _ _ => False) (x_callX (has_double_steps T) (hr.mono (by decide)) (takes_of rfl rfl rfl rfl) (fun _ _ _ _ h => h) (a1 (xv 0)).gets fun vs H1 e1 hv Q' qq => ⟨p, o, hv, hon.mono e1, ?_⟩) (fun v H1 k1 hv => hv.elim) sc_double_left.nd
    rw [if_pos hf]
    exact RefE.mono e1 q
  · rw [if_neg hf] at q
    refine r_set 1 (v := nv (FwOps.count o.w o.c)) (Gets.is (x_callX (has_double_steps T) (hr.mono (by decide)) (takes_of rfl rfl rfl rfl) (fun _ _ _ _ h => h) (a1 (xv 0)).gets fun vs H1 e1 hv Q' qq => ⟨p, o, hv, hon.mono e1, ?_⟩)) ?_ sc_double_left.nd
    · rw [if_neg hf]
      exact fun H2 e2 => qq _ H2 e2 rfl
    generalize FwOps.count o.w o.c = n at q hn hf
    refine r_when (teqN (xv 1) (xn 0)) (fun hk => ?_) fun hk => ?_
    · rw [if_pos (of_decide_eq_true hk)] at q
      exact r_ret (x_res (g_a T hon (xv 0)) (xn 0) x_none) (out_ok q)
    · have h0 := of_decide_eq_false hk
      rw [if_neg h0] at q
      replace q := out_ok q
      have hle : n ≤ o.w := by omega
      refine r_set 2 (modN (addN (shlN (g_a T hon (xv 0)) (xv 1) (shl_ok (n := 64) (by omega) (by omega))) (shrN (g_b T hon (xv 0)) (subN (g_width T hon (xv 0)) (xv 1) hle))) (g_bound T hon (xv 0)) hp) ?_ sc_double_left.nd
      generalize (o.a * 2 ^ n + o.b / 2 ^ (o.w - n)) % 2 ^ o.w = lo at q
      refine r_setG 3 (x_cat (c_shows T hr hon g.w (xv 0) (xv 2)) (x_flags (fa_cons (x_flag (xgn 0 T.g_CARRY) (eqN (c_bit T hr (g_a T hon (xv 0)) (subN (g_width T hon (xv 0)) (xv 1) hle)) (xn 1))) fa_nil) (show 1 ≤ 1000 by decide)) (show 3 + 1 ≤ 1000 by decide)) (fun v H1 k1 hv => ?_) sc_double_left.nd
      obtain ⟨g2, rfl, hf2⟩ := hv
      have hon1 := hon.mono k1
      refine r_ret (x_res (xv 2) (xn 0) (x_cat (x_vF (xv 3) hf2) (c_only T hr (xv 1) ((neN (c_top T hr hon1 g.w (xv 0) (xv 2)) (c_top T hr hon1 g.w (xv 0) (g_a T hon1 (xv 0)))).to (congrArg V.bl (bit_ne _ _ _ _)))) (Nat.le_trans (Nat.add_le_add_left (only_len _ _) _) (show 3 + 1 + 1 ≤ 1000 by decide)))) fun v H2 k2 hv => q v H2 (k1.trans k2) ?_
      rw [List.append_assoc] at hv
      exact hv
theorem has_double_right (T : Top K mg) : HasX P w K mg base 6 "double_right" ["on"] (spOpX K fun o => FwOps.shrd o.w (FwOps.count o.w o.c) o.a o.b) := by
  refine hasX_of d_double_right T.f_double_right T.g_double_right sc_double_right (fun _ _ _ _ _ _ us hl => match us, hl with | [_], _ => rfl) opX_len fun cdv A outer s H vs Q E hr h => ?_
  obtain ⟨p, o, rfl, hon, g, q⟩ := h
  have q : Out K (FwOps.shrd o.w (FwOps.count o.w o.c) o.a o.b) H Q E := q
  have g : Good o := g
  have hn := count_lt o.w o.c
  have hb := pow_le g.w g.b
  have hbd : 2 ^ o.w < 2 ^ 65 := Nat.pow_lt_pow_right (by decide) (by have := g.w.le; omega)
  have hp := two_pos o.w
  unfold FwOps.shrd FwOps.shifted FwOps.gives at q
  dsimp only at q
  by_cases hf : o.w < FwOps.count o.w o.c
  · rw [if_pos hf] at q
    refine r_setG 1 (P := fun _ _ => False) (x_callX (has_double_steps T) (hr.mono (by decide)) (takes_of rfl rfl rfl rfl) (fun _ _ _ _ h => h) (a1 (xv 0)).gets fun vs H1 e1 hv Q' qq => ⟨p, o, hv, hon.mono e1, ?_⟩) (fun v H1 k1 hv => hv.elim) sc_double_right.nd
    rw [if_pos hf]
    exact RefE.mono e1 q
  · rw [if_neg hf] at q
    refine r_set 1 (v := nv (FwOps.count o.w o.c)) (Gets.is (x_callX (has_double_steps T) (hr.mono (by decide)) (takes_of rfl rfl rfl rfl) (fun _ _ _ _ h => h) (a1 (xv 0)).gets fun vs H1 e1 hv Q' qq => ⟨p, o, hv, hon.mono e1, ?_⟩)) ?_ sc_double_right.nd
    · rw [if_neg hf]
      exact fun H2 e2 => qq _ H2 e2 rfl
    generalize FwOps.count o.w o.c = n at q hn hf
    refine r_when (teqN (xv 1) (xn 0)) (fun hk => ?_) fun hk => ?_
    · rw [if_pos (of_decide_eq_true hk)] at q
      exact r_ret (x_res (g_a T hon (xv 0)) (xn 0) x_none) (out_ok q)
    · have h0 := of_decide_eq_false hk
      rw [if_neg h0] at q
      replace q := out_ok q
      refine r_set 2 (modN (shrN (addN (mulN (g_b T hon (xv 0)) (g_bound T hon (xv 0)) (mul_ok hb hbd (by decide))) (g_a T hon (xv 0))) (xv 1)) (g_bound T hon (xv 0)) hp) ?_ sc_double_right.nd
      generalize (o.b * 2 ^ o.w + o.a) / 2 ^ n % 2 ^ o.w = lo at q
      refine r_setG 3 (x_cat (c_shows T hr hon g.w (xv 0) (xv 2)) (x_flags (fa_cons (x_flag (xgn 0 T.g_CARRY) (eqN (c_bit T hr (g_a T hon (xv 0)) (subN (xv 1) (xn 1) (by omega))) (xn 1))) fa_nil) (show 1 ≤ 1000 by decide)) (show 3 + 1 ≤ 1000 by decide)) (fun v H1 k1 hv => ?_) sc_double_right.nd
      obtain ⟨g2, rfl, hf2⟩ := hv
      have hon1 := hon.mono k1
      refine r_ret (x_res (xv 2) (xn 0) (x_cat (x_vF (xv 3) hf2) (c_only T hr (xv 1) ((neN (c_top T hr hon1 g.w (xv 0) (xv 2)) (c_top T hr hon1 g.w (xv 0) (g_a T hon1 (xv 0)))).to (congrArg V.bl (bit_ne _ _ _ _)))) (Nat.le_trans (Nat.add_le_add_left (only_len _ _) _) (show 3 + 1 + 1 ≤ 1000 by decide)))) fun v H2 k2 hv => q v H2 (k1.trans k2) ?_
      rw [List.append_assoc] at hv
      exact hv
end
/-! ### operations.py -/
section
variable {X : Cx} {σ : St} {H : Hp} {a b : Expr} {pos : Pos}
theorem t_ninC {n : Nat} (ns : List Nat) (ha : Is X σ H a (nv n)) (hb : Gets X σ H b (fun v H => ∃ q, v = .ref q ∧ SqT X.K H q (ns.map nv))) (hm : behindInMarks .NotIn b = false := by rfl) : Tru X σ H (.Compare a [.NotIn] [b] pos) (decide (n ∉ ns)) := fun H1 k1 Q q =>
  ⟨_, pt_cmpR op_notIn_seq EW.pe EW.pe hm, ha H1 k1 _ fun H2 k2 => hb H2 (k1.trans k2) _ fun v H3 k3 hv => by
    obtain ⟨p, rfl, hp⟩ := hv
    refine ⟨p, _, rfl, .inr hp, rfl, flatN ns, _, rfl, ?_⟩
    have z := q H3 (k2.trans k3)
    show Q (!inV (nv n) (ns.map nv)) H3
    rw [inN, ← decide_not]
    exact z⟩
end
theorem Out.mono {K : PySem.W.Frag} {r : FwOps.Gives} {H H' : Hp} {Q : VK} {E : XK} (e : Ex H H') (h : Out K r H Q E) : Out K r H' Q E := by
  cases r with
  | ok r => exact fun v H2 k => h v H2 (e.trans k)
  | error z => exact fun d H2 k => h d H2 (e.trans k)
/-- what the number n does with operands -/
abbrev actOf (n : Nat) (o : On) : FwOps.Gives := FwOps.act n o.w o.a o.b o.c (FwOps.bitAt o.f FwOps.CARRY) (FwOps.bitAt o.f FwOps.HALF)
/-- the def at f does the operation n -/
structure Deed (P : Program) (w : World) (K : PySem.W.Frag) (mg : Str → Option Value) (base : Heap) (n : Nat) (f : Addr) : Prop where
  ex : ∃ (CX : CXT) (fd : FuncData) (sp : Sp), FnOk P w K mg base CX 6 f fd ["on"] sp ∧ Binds K fd ["on"] [] ∧ PySem.W.keepIn K (.ref f) = true ∧ (CX = CX0 ∨ CX = L2.CX P w) ∧
    ∀ (p : Addr) (o : On) (H : Hp) (Q : VK) (E : XK), OnAt K o p H → Good o → o.w ∈ FwOps.widths n → Out K (actOf n o) H Q E → sp [.ref p] H Q E
section
variable {P : Program} {w : World} {K : PySem.W.Frag} {mg : Str → Option Value} {base : Heap}
theorem deed_ok {n : Nat} {x : Str} {res : On → Nat × Nat × List Giv} (F : Has P w K mg base 6 x ["on"] (spOp K res)) (h : ∀ o, Good o → o.w ∈ FwOps.widths n → actOf n o = .ok (res o)) : Deed P w K mg base n (He.ga K x) := by
  obtain ⟨fd, F1, hb⟩ := F.fn
  refine ⟨⟨_, fd, _, F1, hb, F.kp, .inl rfl, fun p o H Q E hon g hw q => ⟨(p, o), rfl, ⟨hon, g⟩, ?_⟩⟩⟩
  rw [h o g hw] at q
  exact q
theorem deed_of {n : Nat} {x : Str} {g : On → FwOps.Gives} (F : Has P w K mg base 6 x ["on"] (spOpX K g)) (h : ∀ o, actOf n o = g o) : Deed P w K mg base n (He.ga K x) := by
  obtain ⟨fd, F1, hb⟩ := F.fn
  refine ⟨⟨_, fd, _, F1, hb, F.kp, .inl rfl, fun p o H Q E hon gd hw q => ⟨p, o, rfl, hon, gd, ?_⟩⟩⟩
  rw [h o] at q
  exact q
theorem deedX_of {n : Nat} {x : Str} {g : On → FwOps.Gives} (F : HasX P w K mg base 6 x ["on"] (spOpX K g)) (h : ∀ o, actOf n o = g o) : Deed P w K mg base n (He.ga K x) := by
  obtain ⟨fd, F1, hb⟩ := F.fn
  refine ⟨⟨_, fd, _, F1, hb, F.kp, .inr rfl, fun p o H Q E hon gd hw q => ⟨p, o, rfl, hon, gd, ?_⟩⟩⟩
  rw [h o] at q
  exact q
end
theorem w_8 {n w : Nat} (e : FwOps.widths n = [8]) (h : w ∈ FwOps.widths n) : w = 8 := by
  rw [e] at h
  simpa using h
theorem w_16 {n w : Nat} (e : FwOps.widths n = [16]) (h : w ∈ FwOps.widths n) : w = 16 := by
  rw [e] at h
  simpa using h
theorem act_38 (o : On) (h : o.w = 8) : actOf 38 o = .ok (daaLo o, 0, FwOps.shows o.w (daaLo o) ++ [(FwOps.HALF, lowW o), (FwOps.CARRY, highW o)]) := by
  rw [h] <;> rfl
theorem act_39 (o : On) (h : o.w = 8) : actOf 39 o = .ok (dasLo o, 0, FwOps.shows o.w (dasLo o) ++ [(FwOps.HALF, lowW o), (FwOps.CARRY, highW o || (lowW o && decide (o.a < 6)))]) := by
  rw [h] <;> rfl
theorem act_40 (o : On) (h : o.w = 16) : actOf 40 o = .ok (FwOps.oneDigit (aaaX o), 0, digFlags o) := by
  unfold aaaX
  rw [h]
  rfl
theorem aasX_is (o : On) (h : o.w = 16) (ha : o.a < 2 ^ o.w) : aasX o = (o.a + 65536 - (if lowW o = true then 262 else 0)) % 65536 := by
  unfold aasX
  rw [h] at ha ⊢
  have e : (2 : Nat) ^ 16 = 65536 := by decide
  rw [e] at ha ⊢
  cases lowW o <;> simp <;> omega
theorem act_41 (o : On) (h : o.w = 16) (ha : o.a < 2 ^ o.w) : actOf 41 o = .ok (FwOps.oneDigit (aasX o), 0, digFlags o) := by
  rw [aasX_is o h ha]
  rfl
section
variable {P : Program} {w : World} {K : PySem.W.Frag} {mg : Str → Option Value} {base : Heap}
theorem deeds (T : Top K mg) : ∀ n, n < 44 → ∃ f, (lst_OPERATIONS.map (He.Dv.v K))[n]? = some (.ref f) ∧ Deed P w K mg base n f
  | 0, _ => ⟨He.ga K "add", rfl, deed_ok (has_add T) fun _ _ _ => rfl⟩
  | 1, _ => ⟨He.ga K "add_carry", rfl, deed_ok (has_add_carry T) fun _ _ _ => rfl⟩
  | 2, _ => ⟨He.ga K "subtract", rfl, deed_ok (has_subtract T) fun _ _ _ => rfl⟩
  | 3, _ => ⟨He.ga K "subtract_borrow", rfl, deed_ok (has_subtract_borrow T) fun _ _ _ => rfl⟩
  | 4, _ => ⟨He.ga K "compare", rfl, deed_ok (has_compare T) fun _ _ _ => rfl⟩
  | 5, _ => ⟨He.ga K "contrary", rfl, deed_ok (has_contrary T) fun _ _ _ => rfl⟩
  | 6, _ => ⟨He.ga K "one_on", rfl, deed_ok (has_one_on T) fun _ _ _ => rfl⟩
  | 7, _ => ⟨He.ga K "one_back", rfl, deed_ok (has_one_back T) fun _ _ _ => rfl⟩
  | 8, _ => ⟨He.ga K "both_bits", rfl, deed_ok (has_both_bits T) fun _ _ _ => rfl⟩
  | 9, _ => ⟨He.ga K "either_bit", rfl, deed_ok (has_either_bit T) fun _ _ _ => rfl⟩
  | 10, _ => ⟨He.ga K "unlike_bits", rfl, deed_ok (has_unlike_bits T) fun _ _ _ => rfl⟩
  | 11, _ => ⟨He.ga K "tried_bits", rfl, deed_ok (has_tried_bits T) fun _ _ _ => rfl⟩
  | 12, _ => ⟨He.ga K "other_bits", rfl, deed_ok (has_other_bits T) fun _ _ _ => rfl⟩
  | 13, _ => ⟨He.ga K "shift_left", rfl, deed_of (has_shift_left T) fun _ => rfl⟩
  | 14, _ => ⟨He.ga K "shift_right", rfl, deed_of (has_shift_right T) fun _ => rfl⟩
  | 15, _ => ⟨He.ga K "shift_signed", rfl, deed_of (has_shift_signed T) fun _ => rfl⟩
  | 16, _ => ⟨He.ga K "turn_left", rfl, deed_of (has_turn_left T) fun _ => rfl⟩
  | 17, _ => ⟨He.ga K "turn_right", rfl, deed_of (has_turn_right T) fun _ => rfl⟩
  | 18, _ => ⟨He.ga K "carry_left", rfl, deed_of (has_carry_left T) fun _ => rfl⟩
  | 19, _ => ⟨He.ga K "carry_right", rfl, deed_of (has_carry_right T) fun _ => rfl⟩
  | 20, _ => ⟨He.ga K "double_left", rfl, deedX_of (has_double_left T) fun _ => rfl⟩
  | 21, _ => ⟨He.ga K "double_right", rfl, deedX_of (has_double_right T) fun _ => rfl⟩
  | 22, _ => ⟨He.ga K "multiply", rfl, deed_ok (has_multiply T) fun _ _ _ => rfl⟩
  | 23, _ => ⟨He.ga K "multiply_signed", rfl, deed_ok (has_multiply_signed T) fun _ _ _ => rfl⟩
  | 24, _ => ⟨He.ga K "divide", rfl, deedX_of (has_divide T) fun _ => rfl⟩
  | 25, _ => ⟨He.ga K "divide_signed", rfl, deedX_of (has_divide_signed T) fun _ => rfl⟩
  | 26, _ => ⟨He.ga K "bit_asked", rfl, deed_ok (has_bit_asked T) fun _ _ _ => rfl⟩
  | 27, _ => ⟨He.ga K "bit_set", rfl, deed_ok (has_bit_set T) fun _ _ _ => rfl⟩
  | 28, _ => ⟨He.ga K "bit_cleared", rfl, deed_ok (has_bit_cleared T) fun _ _ _ => rfl⟩
  | 29, _ => ⟨He.ga K "bit_turned", rfl, deed_ok (has_bit_turned T) fun _ _ _ => rfl⟩
  | 30, _ => ⟨He.ga K "lowest_bit", rfl, deed_ok (has_lowest_bit T) fun _ _ _ => rfl⟩
  | 31, _ => ⟨He.ga K "highest_bit", rfl, deed_ok (has_highest_bit T) fun _ _ _ => rfl⟩
  | 32, _ => ⟨He.ga K "bytes_turned", rfl, deed_ok (has_bytes_turned T) fun _ _ _ => rfl⟩
  | 33, _ => ⟨He.ga K "exchange_add", rfl, deed_ok (has_exchange_add T) fun _ _ _ => rfl⟩
  | 34, _ => ⟨He.ga K "compare_exchange", rfl, deed_ok (has_compare_exchange T) fun _ _ _ => rfl⟩
  | 35, _ => ⟨He.ga K "carry_cleared", rfl, deed_ok (has_carry_cleared T) fun _ _ _ => rfl⟩
  | 36, _ => ⟨He.ga K "carry_set", rfl, deed_ok (has_carry_set T) fun _ _ _ => rfl⟩
  | 37, _ => ⟨He.ga K "carry_turned", rfl, deed_ok (has_carry_turned T) fun _ _ _ => rfl⟩
  | 38, _ => ⟨He.ga K "after_sum", rfl, deed_ok (has_after_sum T) fun o _ hw => act_38 o (w_8 rfl hw)⟩
  | 39, _ => ⟨He.ga K "after_difference", rfl, deed_ok (has_after_difference T) fun o _ hw => act_39 o (w_8 rfl hw)⟩
  | 40, _ => ⟨He.ga K "digit_after_sum", rfl, deed_ok (has_digit_after_sum T) fun o _ hw => act_40 o (w_16 rfl hw)⟩
  | 41, _ => ⟨He.ga K "digit_after_difference", rfl, deed_ok (has_digit_after_difference T) fun o g hw => act_41 o (w_16 rfl hw) g.a⟩
  | 42, _ => ⟨He.ga K "digits_parted", rfl, deedX_of (has_digits_parted T) fun _ => rfl⟩
  | 43, _ => ⟨He.ga K "digits_joined", rfl, deed_ok (has_digits_joined T) fun _ _ _ => rfl⟩
  | n + 44, h => absurd h (by omega)
end
theorem widths_lt {op m : Nat} (h : m ∈ FwOps.widths op) : op < 44 ∧ Wd m := by
  unfold FwOps.widths at h
  unfold Wd
  split at h
  · simp only [List.mem_cons, List.not_mem_nil, or_false] at h
    exact ⟨by omega, by omega⟩
  · split at h
    · simp only [List.mem_cons, List.not_mem_nil, or_false] at h
      exact ⟨by omega, by omega⟩
    · split at h
      · simp only [List.mem_cons, List.not_mem_nil, or_false] at h
        exact ⟨by omega, by omega⟩
      · split at h
        · simp only [List.mem_cons, List.not_mem_nil, or_false] at h
          exact ⟨by omega, by omega⟩
        · split at h
          · simp only [List.mem_cons, List.not_mem_nil, or_false] at h
            exact ⟨by omega, by omega⟩
          · simp at h
section
variable {P : Program} {w : World} {K : PySem.W.Frag} {mg : Str → Option Value} {base : Heap}
abbrev spWidths (K : PySem.W.Frag) : Sp := Pr (ι := Nat) (fun n => [nv n]) (fun n _ => n < 44) (fun n v H => ∃ q, v = .ref q ∧ SqT K H q ((FwOps.widths n).map nv))
theorem tup_of {X : Cx} {σ : St} {H : Hp} {es : List Expr} {ct : Nat} {pos : Pos} {ns : List Nat} (h : As X σ H es (ns.map nv)) (hl : ns.length ≤ 1000) : Gets X σ H (.Tuple es ct pos) (fun v H => ∃ q, v = .ref q ∧ SqT X.K H q (ns.map nv)) :=
  (x_tup h.gets fun vs _ hv => by rw [hv, List.length_map]; exact hl).imp fun v H1 _ h => by
    obtain ⟨q, vs, Hq, rfl, hq, _, rfl⟩ := h
    exact ⟨q, rfl, SqT.of hq⟩
theorem has_widths_of (T : Top K mg) : Has P w K mg base 1 "widths_of" ["operation"] (spWidths K) := by
  refine has_of d_widths_of T.f_widths_of T.g_widths_of sc_widths_of (fun _ _ _ _ _ _ us hl => match us, hl with | [_], _ => rfl) (pr_len fun _ => rfl) fun cdv A outer s H vs Q E hr h => ?_
  obtain ⟨n, rfl, hn, q⟩ := h
  have hn : n < 44 := hn
  have q : ∀ (v : V) (H2 : Hp), Ex H H2 → (∃ q, v = .ref q ∧ SqT K H2 q ((FwOps.widths n).map nv)) → Q v H2 := q
  refine r_when (t_inT [20, 21, 26, 27, 28, 29, 30, 31] (xv 0) (xgr T.g_WIDE) (T.t_WIDE H)) (fun hk => ?_) fun hk => ?_
  · have e := of_decide_eq_true hk
    simp only [List.mem_cons, List.not_mem_nil, or_false] at e
    have e2 : FwOps.widths n = [16, 32, 64] := by
      unfold FwOps.widths
      rw [if_pos (by omega)]
    rw [e2] at q
    exact r_ret (tup_of (ns := [16, 32, 64]) (ac (xn 16) (ac (xn 32) (a1 (xn 64)))) (show 3 ≤ 1000 by decide)) q
  have e := of_decide_eq_false hk
  simp only [List.mem_cons, List.not_mem_nil, or_false] at e
  have e2 : FwOps.widths n = if n = 32 then [32, 64] else if n = 38 ∨ n = 39 then [8] else if 40 ≤ n ∧ n ≤ 43 then [16] else if n ≤ 37 then [8, 16, 32, 64] else [] := by
    unfold FwOps.widths
    rw [if_neg (by omega)]
  rw [e2] at q
  refine r_when (teqN (xv 0) (xgn 32 T.g_TURNING_BYTES)) (fun hk => ?_) fun hk => ?_
  · rw [if_pos (of_decide_eq_true hk)] at q
    exact r_ret (tup_of (ns := [32, 64]) (ac (xn 32) (a1 (xn 64))) (show 2 ≤ 1000 by decide)) q
  rw [if_neg (of_decide_eq_false hk)] at q
  refine r_when (t_inT [38, 39] (xv 0) (xgr T.g_TWO_DIGITS) (T.t_TWO_DIGITS H)) (fun hk => ?_) fun hk => ?_
  · have e := of_decide_eq_true hk
    simp only [List.mem_cons, List.not_mem_nil, or_false] at e
    rw [if_pos e] at q
    exact r_ret (tup_of (ns := [8]) (a1 (xn 8)) (show 1 ≤ 1000 by decide)) q
  have e3 := of_decide_eq_false hk
  simp only [List.mem_cons, List.not_mem_nil, or_false] at e3
  rw [if_neg e3] at q
  refine r_when (t_inT [40, 41, 42, 43] (xv 0) (xgr T.g_ONE_DIGIT) (T.t_ONE_DIGIT H)) (fun hk => ?_) fun hk => ?_
  · have e := of_decide_eq_true hk
    simp only [List.mem_cons, List.not_mem_nil, or_false] at e
    rw [if_pos (by omega)] at q
    exact r_ret (tup_of (ns := [16]) (a1 (xn 16)) (show 1 ≤ 1000 by decide)) q
  have e4 := of_decide_eq_false hk
  simp only [List.mem_cons, List.not_mem_nil, or_false] at e4
  rw [if_neg (by omega), if_pos (by omega)] at q
  exact r_ret (tup_of (ns := [8, 16, 32, 64]) (ac (xn 8) (ac (xn 16) (ac (xn 32) (a1 (xn 64))))) (show 4 ≤ 1000 by decide)) q
/-- what done gives -/
def doneOf (op m a b c f : Nat) : FwOps.Gives := if m ∈ FwOps.widths op then FwOps.act op m (a % 2 ^ m) (b % 2 ^ m) (c % 2 ^ m) (FwOps.bitAt f FwOps.CARRY) (FwOps.bitAt f FwOps.HALF) else .error (-1)
abbrev spDone (K : PySem.W.Frag) : Sp := fun vs H Q E => ∃ (op m : Nat) (t : Addr) (a b c f : Nat), vs = [nv op, nv m, .ref t, nv f] ∧ H t = some (.tup [nv a, nv b, nv c]) ∧ Out K (doneOf op m a b c f) H Q E
/-- return deed(..) -/
theorem r_deed {X : Cx} {σ : St} {H : Hp} {D : Ends} {E : XK} {x : Str} {e : Expr} {pos p1 pos2 : Pos} {n : Nat} {f : Addr} {o : On} (i : Nat) (F : Deed X.prog X.w X.K X.mg X.base n f) (hr : Room 6 X.A) (tk : Takes X (fun cls d _ H => E cls d H)) (ha : Gets X σ H e (fun v H => ∃ p, v = .ref p ∧ OnAt X.K o p H)) (g : Good o) (hw : o.w ∈ FwOps.widths n) (hq : Out X.K (actOf n o) H D.rt E)
    (hN : X.N[i]? = some x := by rfl) (hv : Vis X.env.scope x := by exact Or.inl rfl) (h : σ[i]? = some (some (.ref f)) := by rfl) (hdb : (x == ("__debug__" : Str)) = false := by decide) (hcd : (x == ("__classdict__" : Str)) = false := by decide)
    (hs : starEach [e] X.env = (false, eval e X.env) :: starEach [] X.env := by rfl) (hpl : (backTo pos (starEach [] X.env)).any (·.1) = false := by rfl) : Runs X H [.Return (some (.Call (.Name x p1) [e] [] pos)) pos2] D σ := fun H1 k1 => by
  obtain ⟨CX, fd, sp, F1, hb, hk, hc, ok⟩ := F.ex
  have px : Passes CX X E := by
    rcases hc with rfl | rfl
    · exact fun _ _ _ _ _ _ _ z => z.elim
    · exact passes_call tk fun _ _ _ _ z => z
  refine ⟨_, pss_one (ps_ret (pe_callL (i := i) (dvs := []) (E := E) F1 hr hN hv hk hb .nil px (pa_cons EW.pe pa_nil hs) hdb hcd hs hpl)), ?_⟩
  refine ⟨h, ha H1 k1 _ fun v H2 k2 hv => ?_⟩
  obtain ⟨p, rfl, hon⟩ := hv
  exact ok p o H2 _ E hon g hw (Out.mono (k1.trans k2) hq)
theorem has_done (T : Top K mg) : HasX P w K mg base 7 "done" ["operation", "width", "numbers", "flags"] (spDone K) := by
  refine hasX_of d_done T.f_done T.g_done sc_done (fun _ _ _ _ _ _ us hl => match us, hl with | [_, _, _, _], _ => rfl) (fun vs H Q E h => ?_) fun cdv A outer s H vs Q E hr h => ?_
  · obtain ⟨op, m, t, a, b, c, f, rfl, _⟩ := h
    rfl
  · obtain ⟨op, m, t, a, b, c, f, rfl, ht, q⟩ := h
    unfold doneOf at q
    have hlen : ∀ H1, SqL K H1 (He.ga K "OPERATIONS") (lst_OPERATIONS.map (He.Dv.v K)) := fun H1 => He.lstB_ok T.x_OPERATIONS H1
    refine r_when (k := decide (44 ≤ op) || decide (m ∉ FwOps.widths op)) (t_or2 (tgeN (xv 0) (Gets.is (x_callB (P := fun v _ => v = nv 44) call_len_seq T.n_len (by decide +kernel) (a1 (xgr T.g_OPERATIONS)) fun H1 _ Q' qq => ⟨_, _, rfl, .inl (hlen H1), qq _ H1 (Ex.refl _) rfl⟩))) fun hk => t_ninC (FwOps.widths op) (xv 1) (x_pr (has_widths_of T) (hr.mono (by decide)) op (a1 (xv 0)) fun _ _ => Nat.lt_of_not_le (of_decide_eq_false hk))) (fun hk => ?_) fun hk => ?_
    · have hn : m ∉ FwOps.widths op := by
        rcases Bool.or_eq_true_iff.mp hk with h | h
        · intro z
          have := (widths_lt z).1
          have := of_decide_eq_true h
          omega
        · exact of_decide_eq_true h
      rw [if_neg hn] at q
      exact r_raise T hr (takes_of rfl rfl rfl rfl) (xgi T.g_NO_OPERATION) q
    · obtain ⟨h1, h2⟩ := Bool.or_eq_false_iff.mp hk
      have hm : m ∈ FwOps.widths op := Decidable.not_not.mp (of_decide_eq_false h2)
      rw [if_pos hm] at q
      obtain ⟨hlt, hw⟩ := widths_lt hm
      obtain ⟨g, hg, F⟩ := deeds (P := P) (w := w) (base := base) T op hlt
      refine r_set 4 (x_ixL (xgr T.g_OPERATIONS) (hlen H) (xv 0) hg) ?_ sc_done.nd
      have hp := two_pos m
      exact r_deed (o := ⟨m, a % 2 ^ m, b % 2 ^ m, c % 2 ^ m, f⟩) 4 F hr (takes_of rfl rfl rfl rfl) (c_Operands T hr (xv 1) (x_ixT (xv 2) (SqT.of ht) (xn 0) rfl) (x_ixT (xv 2) (SqT.of ht) (xn 1) rfl) (x_ixT (xv 2) (SqT.of ht) (xn 2) rfl) (xv 3) hw.le) ⟨hw, Nat.mod_lt _ hp, Nat.mod_lt _ hp, Nat.mod_lt _ hp⟩ hm q
end
/-! ### try .. except X as n: as statements of the layer -/
section
variable {X : Cx} {σ : St} {H : Hp} {e : Expr} {es : List Expr} {P : V → Hp → Prop} {R : List V → Hp → Prop} {p pos : Pos} {D : Ends} {rest : List Stmt}
/-- f(e, ..), f may raise, what it lets out goes to W with the slots as they are -/
theorem x_callS {k : Nat} {n : Str} {ps : List Str} {sp : Sp} {W : WX} (F : HasX X.prog X.w X.K X.mg X.base k n ps sp) (hr : Room k X.A) (tk : Takes X W) (ha : AGets X σ H (e :: es) R) (h : ∀ vs H1, Ex H H1 → R vs H1 → ∀ Q : VK, (∀ v H2, Ex H1 H2 → P v H2 → Q v H2) → sp vs H1 Q (fun cls d H => W cls d σ H))
    (hg : Gl X n := by rfl) (hdb : (n == ("__debug__" : Str)) = false := by decide) (he : starEach (e :: es) X.env = (false, eval e X.env) :: starEach es X.env := by rfl) (hpl : (backTo pos (starEach es X.env)).any (·.1) = false := by rfl) :
    Gets X σ H (.Call (.Name n p) (e :: es) [] pos) P := fun H1 e1 Q q => by
  obtain ⟨fd, F1, hb⟩ := F.fn
  exact ⟨_, pe_callS F1 hr hg F.gl F.kp hb (fun σ => passAt tk σ) AW.pa hdb he hpl, ha H1 e1 _ fun vs H2 e2 hv => h vs H2 (e1.trans e2) hv Q fun v H3 e3 hp => q v H3 (e2.trans e3) hp⟩
theorem no_takes : Takes X (fun _ _ _ _ => False) := fun u s' x => by
  obtain ⟨a, B, sI, pins, σ, H, cls, d, e, I, nb, up, sky, na, os, ag, w⟩ := x
  exact w.elim
/-- try: body / except x as n: suite, the suite leaving by return; S: what is known of the exception's dict -/
theorem r_tryAs (i : Nat) {x n : Str} {c : Value} {body suite : List Stmt} {b₀ : Stmt} {np pos' : Pos} (S : Option Addr → Hp → Prop) (hc : Names X x c) (hm : PySem.W.exmOne X.K c c = some true) (hN : X.N.Nodup)
    (hsu : ∀ (a : Addr) (d : Option Addr) (oe : Obj) (pn : List (Addr × Obj)) (H2 : Hp) (D' : Ends), S d H2 → Zc c d oe → (∃ vs, oe.data = .fields vs) → D'.rt = D.rt → SW (X.suite a ((a, oe) :: pn)) (b₀ :: suite) D' (σ.set i (some (.ref a))) H2)
    (hb : ∀ (W : WX) (pn : List (Addr × Obj)) (xe : Value → Shared → Prop), Takes (X.tr pn xe) W → (∀ d H2, S d H2 → W c d σ H2) → Runs (X.tr pn xe) H body { D with nx := SW X rest D } σ)
    (hi : X.N[i]? = some n := by rfl) (hln : X.env.kindOf n = some .local := by rfl) (hs : X.stack = X.env :: X.outer := by rfl) (hf : X.env.frame = some X.env.locals := by rfl) :
    Runs X H (.Try body [.ExceptHandler (some (.Name x np)) (some n) (b₀ :: suite) pos'] [] [] pos :: rest) D σ := fun H1 k1 =>
  ⟨_, pss_cons (ps_try_as (Wout := fun _ _ _ _ => False) (tb := fun W D σ H => ∀ (pn : List (Addr × Obj)) (xe : Value → Shared → Prop), Takes (X.tr pn xe) W → PassesOwn (model X.prog X.w) X.A X.env xe → SW (X.tr pn xe) body D σ H)
      (ts := fun a cls d D σ H => ∀ (oe : Obj) (pn : List (Addr × Obj)), Zc cls d oe → (∃ vs, oe.data = .fields vs) → SW (X.suite a ((a, oe) :: pn)) (b₀ :: suite) D σ H) hs hf hN hi hln hc no_takes
      (fun W pn xe tk po => ⟨fun pins s σ H D I h => SW.pss.run pins s σ H D I (h pn xe tk po)⟩)
      (fun a oe cls d pn hz hv => ⟨fun pins s σ H D I h => SW.pss.run pins s σ H D I (h oe pn hz hv)⟩)) SW.pss, fun pn xe tk po =>
    hb _ pn xe tk (fun d H2 hS => ⟨true, hm, fun _ a na oe pn hz hv => hsu a d oe pn H2 _ hS hz hv rfl, fun z => Bool.noConfusion z⟩) H1 k1⟩
/-- x, y, z = a tuple, and B is so if it comes to that -/
theorem r_resB {B : Prop} {l : List Giv} {e : Expr} (i j w : Nat) {n n' n'' : Str} {ct : Nat} {q1 q2 q3 : Pos} {lo hi : Nat} (he : Gets X σ H e (fun v H => Res lo hi l v H ∧ B)) (k : B → ∀ g H1, Ex H H1 → FlAt l g H1 → Runs X H1 rest D (((σ.set i (some (nv lo))).set j (some (nv hi))).set w (some (.ref g)))) (hN : X.N.Nodup) (hi : X.N[i]? = some n := by rfl) (hj : X.N[j]? = some n' := by rfl) (hk : X.N[w]? = some n'' := by rfl) (hc : X.calm = true := by rfl)
    (hx : Loc X.env.scope n := by first | exact Or.inl rfl | exact Or.inr rfl) (hy : Loc X.env.scope n' := by first | exact Or.inl rfl | exact Or.inr rfl) (hz : Loc X.env.scope n'' := by first | exact Or.inl rfl | exact Or.inr rfl) (hf : X.fn n = true ∨ X.env.scope.names.lookup n = some .local := by first | exact .inl rfl | exact .inr rfl) (hf' : X.fn n' = true ∨ X.env.scope.names.lookup n' = some .local := by first | exact .inl rfl | exact .inr rfl) (hf'' : X.fn n'' = true ∨ X.env.scope.names.lookup n'' = some .local := by first | exact .inl rfl | exact .inr rfl)
    (hs : swapsWithSole [.Tuple [.Name n q1, .Name n' q2, .Name n'' q3] ct p] e pos.line X.env = pure false := by rfl) (hw : swappedStores [.Tuple [.Name n q1, .Name n' q2, .Name n'' q3] ct p] e X.env = pure none := by rfl) (h1 : (assignEach [.Tuple [.Name n q1, .Name n' q2, .Name n'' q3] ct p] X.env).map (·.2) = [assign (.Tuple [.Name n q1, .Name n' q2, .Name n'' q3] ct p) X.env] := by rfl)
    (h2 : (assignEach [.Name n q1, .Name n' q2, .Name n'' q3] X.env).map (·.2) = assign (.Name n q1) X.env :: (assignEach [.Name n' q2, .Name n'' q3] X.env).map (·.2) := by rfl) (h3 : (assignEach [.Name n' q2, .Name n'' q3] X.env).map (·.2) = assign (.Name n' q2) X.env :: (assignEach [.Name n'' q3] X.env).map (·.2) := by rfl) (h3' : (assignEach [.Name n'' q3] X.env).map (·.2) = assign (.Name n'' q3) X.env :: (assignEach [] X.env).map (·.2) := by rfl)
    (h4 : (assignEach [.Name n q1, .Name n' q2, .Name n'' q3] X.env).length = 3 := by rfl) (h5 : (assignEach [.Name n q1, .Name n' q2, .Name n'' q3] X.env).findIdx? (·.1) = none := by rfl) : Runs X H (.Assign [.Tuple [.Name n q1, .Name n' q2, .Name n'' q3] ct p] e pos :: rest) D σ := fun H1 k1 =>
  ⟨_, pss_cons (ps_asg EW.pe (pg_tup hc (pgs_cons (pg_name hN hi hx hf) (pgs_cons (pg_name hN hj hy hf') (pgs_cons (pg_name hN hk hz hf'') pgs_nil h3') h3) h2) h4 h5) hs hw h1) SW.pss, he H1 k1 _ fun v H2 k2 hv => by
    obtain ⟨⟨q, g, rfl, hq, hg⟩, hB⟩ := hv
    exact ⟨q, _, rfl, SqT.of hq, rfl, _, _, rfl, _, _, rfl, _, _, rfl, rfl, k hB g H2 (k1.trans k2) hg H2 (Ex.refl _)⟩⟩
/-- err.f, err what the suite holds -/
theorem x_xf {a C : Addr} {oe : Obj} {dd : Addr} {fs : List (Str × V)} {v : V} {pn : List (Addr × Obj)} {n : Str} (F : XfC X.K C) (hno : PySem.W.findIn X.K (.ref C) n = some none) (hz : Zc (.ref C) (some dd) oe) (hf : ∃ vs, oe.data = .fields vs) (hd : H dd = some (.xd fs)) (hl : fs.lookup n = some v) (he : Is (X.suite a ((a, oe) :: pn)) σ H e (.ref a))
    (hb : attributeBase e n X.env (eval e X.env) = eval e X.env := by rfl) : Is (X.suite a ((a, oe) :: pn)) σ H (.Attribute e n pos) v := fun H1 k1 Q q =>
  ⟨_, pe_xf F hno hz hf EW.pe hb, he H1 k1 _ fun H2 k2 => ⟨rfl, rfl, dd, fs, v, rfl, (k1.trans k2) _ _ hd, hl, q H2 k2⟩⟩
end
/-! ### an answer of one number -/
def One (z : Int) (v : V) (H : Hp) : Prop := ∃ p, v = .ref p ∧ H p = some (.lst [.int z])
theorem x_lst1 {X : Cx} {σ : St} {H : Hp} {e : Expr} {z : Int} {pos : Pos} (h : Is X σ H e (.int z)) (hs : starEach [e] X.env = (false, eval e X.env) :: starEach [] X.env := by rfl) : Gets X σ H (.List [e] pos) (One z) :=
  (x_lst (a1 h hs).gets (fun vs _ hv => by rw [hv]; exact (by decide : 1 ≤ 1000))).imp fun v H1 _ hp => by
    obtain ⟨q, vs, Hq, rfl, hq, _, rfl⟩ := hp
    exact ⟨q, rfl, hq⟩
theorem dw_ints : ∀ {K : PySem.W.Frag} {H : Hp} (l : List Int) (xs : List V), DwAll K H xs (l.map PySem.W.WData.int) → xs = l.map V.int
  | K, H, [], xs, h => by
    cases h
    rfl
  | K, H, z :: r, xs, h => by
    cases h with
    | cons h1 h2 =>
      cases h1
      rw [dw_ints r _ h2]
      rfl
theorem nat_nat (n : Nat) : FwLines.nat? (n : Int) = some n := by
  unfold FwLines.nat?
  rw [if_pos (Int.natCast_nonneg n)]
  rfl
theorem in_int {lo hi z : Int} (h : PySem.W.Codec.inInt lo hi z = true) : lo ≤ z ∧ z ≤ hi := by
  rw [PySem.W.Codec.inInt, Bool.and_eq_true, decide_eq_true_eq, decide_eq_true_eq] at h
  exact h
/-- the name that the law's def stands for -/
theorem law_at {K : PySem.W.Frag} {mg : Str → Option Value} {n m : Str} {fa : Addr} (h : mg m = some (.ref fa)) (e : m = n) (g : mg n = some (.ref (He.ga K n))) : fa = He.ga K n := by
  rw [e, g] at h
  injection h with h
  injection h with h
  exact h.symm
/-! ### do -/
def doZ (op m a b c f : Nat) : List Int := match doneOf op m a b c f with
  | .ok (lo, hi, l) => [0, (lo : Int), (hi : Int), (FwOps.giving f l : Nat)]
  | .error z => [z]
theorem spec_do (op m a b c f : Nat) : PyWqacds.do_ op m a b c f = doZ op m a b c f := by
  have e : Neutral.callOf [[0, (op : Int), (m : Int), (a : Int), (b : Int), (c : Int), (f : Int)]] = some (.ask ⟨op, m, a, b, c, f⟩) := by
    show (match FwLines.nat? op, FwLines.nat? m, FwLines.nat? a, FwLines.nat? b, FwLines.nat? c, FwLines.nat? f with | some o, some w, some a, some b, some c, some f => some (FlagOpsSpec.Call.ask ⟨o, w, a, b, c, f⟩) | _, _, _, _, _, _ => none) = _
    rw [nat_nat, nat_nat, nat_nat, nat_nat, nat_nat, nat_nat]
  show (Neutral.step Neutral.start [[0, (op : Int), (m : Int), (a : Int), (b : Int), (c : Int), (f : Int)]]).2 = _
  unfold Neutral.step
  rw [e]
  show (FlagOpsSpec.answerTo (.ask ⟨op, m, a, b, c, f⟩)).nums = _
  unfold FlagOpsSpec.answerTo FwOps.perform doZ doneOf
  dsimp only
  by_cases h : m ∈ FwOps.widths op
  · rw [if_pos h, if_pos h]
    generalize FwOps.act op m (a % 2 ^ m) (b % 2 ^ m) (c % 2 ^ m) (FwOps.bitAt f FwOps.CARRY) (FwOps.bitAt f FwOps.HALF) = r
    cases r with
    | ok r => rfl
    | error z => rfl
  · rw [if_neg h, if_neg h]
    rfl
theorem done_sm {op m a b c f lo hi : Nat} {l : List Giv} (h : doneOf op m a b c f = .ok (lo, hi, l)) : Sm l := by
  unfold doneOf at h
  split at h
  · have k := act_sm op m (a % 2 ^ m) (b % 2 ^ m) (c % 2 ^ m) (FwOps.bitAt f FwOps.CARRY) (FwOps.bitAt f FwOps.HALF)
    rw [h] at k
    exact k
  · cases h
def Ans (zs : List Int) (v : V) (H : Hp) : Prop := ∃ p, v = .ref p ∧ H p = some (.lst (zs.map V.int))
theorem x_ans {X : Cx} {σ : St} {H : Hp} {es : List Expr} {zs : List Int} {pos : Pos} (h : As X σ H es (zs.map V.int)) (hl : zs.length ≤ 1000) : Gets X σ H (.List es pos) (Ans zs) :=
  (x_lst h.gets fun vs _ hv => by rw [hv, List.length_map]; exact hl).imp fun v H1 _ hp => by
    obtain ⟨q, vs, Hq, rfl, hq, _, rfl⟩ := hp
    exact ⟨q, rfl, hq⟩
structure Six where
  op : Nat
  m : Nat
  a : Nat
  b : Nat
  c : Nat
  f : Nat
abbrev spLaw : Sp := Pr (ι := Six) (fun i => [nv i.op, nv i.m, nv i.a, nv i.b, nv i.c, nv i.f]) (fun _ _ => True) (fun i => Ans (doZ i.op i.m i.a i.b i.c i.f))
section
variable {P : Program} {w : World} {K : PySem.W.Frag} {mg : Str → Option Value}
/-- the arguments of done -/
theorem a_done {X : Cx} {σ : St} {H : Hp} {e1 e2 e3 e4 e5 e6 : Expr} {ct : Nat} {pt : Pos} {op m a b c f : Nat} (h1 : Is X σ H e1 (nv op)) (h2 : Is X σ H e2 (nv m)) (h3 : Is X σ H e3 (nv a)) (h4 : Is X σ H e4 (nv b)) (h5 : Is X σ H e5 (nv c)) (h6 : Is X σ H e6 (nv f))
    (s1 : starEach [e1, e2, .Tuple [e3, e4, e5] ct pt, e6] X.env = (false, eval e1 X.env) :: starEach [e2, .Tuple [e3, e4, e5] ct pt, e6] X.env := by rfl) (s2 : starEach [e2, .Tuple [e3, e4, e5] ct pt, e6] X.env = (false, eval e2 X.env) :: starEach [.Tuple [e3, e4, e5] ct pt, e6] X.env := by rfl)
    (s3 : starEach [.Tuple [e3, e4, e5] ct pt, e6] X.env = (false, eval (.Tuple [e3, e4, e5] ct pt) X.env) :: starEach [e6] X.env := by rfl) (s4 : starEach [e6] X.env = (false, eval e6 X.env) :: starEach [] X.env := by rfl)
    (s5 : starEach [e3, e4, e5] X.env = (false, eval e3 X.env) :: starEach [e4, e5] X.env := by rfl) (s6 : starEach [e4, e5] X.env = (false, eval e4 X.env) :: starEach [e5] X.env := by rfl) (s7 : starEach [e5] X.env = (false, eval e5 X.env) :: starEach [] X.env := by rfl) :
    AGets X σ H [e1, e2, .Tuple [e3, e4, e5] ct pt, e6] (fun vs H => ∃ t, vs = [nv op, nv m, .ref t, nv f] ∧ H t = some (.tup [nv a, nv b, nv c])) := fun H1 k1 Q q => by
  have tp : Gets X σ H (.Tuple [e3, e4, e5] ct pt) (fun v H => ∃ t, v = .ref t ∧ H t = some (.tup [nv a, nv b, nv c])) := (x_tup (ac h3 (ac h4 (a1 h5 s7) s6) s5).gets fun vs _ hv => by rw [hv]; exact (by decide : 3 ≤ 1000)).imp fun v H1 _ hp => by
    obtain ⟨t, vs, Hq, rfl, ht, _, rfl⟩ := hp
    exact ⟨t, rfl, ht⟩
  refine ag (P := fun x _ => x = nv op) h1.gets (fun _ _ _ _ h => h) (ag (P := fun x _ => x = nv m) h2.gets (fun _ _ _ _ h => h) (ag tp (fun v H1 H2 k hv => ?_) (a1 h6 s4).gets s3) s2) s1 H1 k1 Q fun vs H2 k2 hv => ?_
  · obtain ⟨t, rfl, ht⟩ := hv
    exact ⟨t, rfl, k _ _ ht⟩
  · obtain ⟨v1, r1, rfl, rfl, v2, r2, rfl, rfl, v3, r3, rfl, ⟨t, rfl, ht⟩, rfl⟩ := hv
    exact q _ H2 k2 ⟨t, rfl, ht⟩
theorem law_ok (T : Top K mg) : ∃ fd, (∀ (s : Shared) (us : List Value), us.length = (["op", "width", "a", "b", "c", "flags"] : List Str).length → BindsTo s fd ⟨us, []⟩ ((["op", "width", "a", "b", "c", "flags"] : List Str).zip us)) ∧ ∀ base : Heap, FnOk P w K mg base CX0 8 (He.ga K "do") fd ["op", "width", "a", "b", "c", "flags"] spLaw := by
  refine law_of d_do T.f_do sc_do (fun _ _ _ _ _ _ us hl => match us, hl with | [_, _, _, _, _, _], _ => rfl) (pr_len fun _ => rfl) fun base cdv A outer s H vs Q E hr h => ?_
  obtain ⟨⟨op, m, a, b, c, f⟩, rfl, _, q⟩ := h
  have q : ∀ (v : V) (H2 : Hp), Ex H H2 → Ans (doZ op m a b c f) v H2 → Q v H2 := q
  unfold doZ at q
  cases hd : doneOf op m a b c f with
  | error z =>
    rw [hd] at q
    refine r_tryAs 6 (fun d H2 => Ex H H2 ∧ ∃ dd, d = some dd ∧ H2 dd = some (.xd [("number", .int z)])) ⟨rfl, by decide, Or.inl T.g_Refused⟩ T.oex.e sc_do.nd ?_ ?_
    · intro a d oe pn H2 D' hS hz hv hrt
      obtain ⟨hex, dd, rfl, hdd⟩ := hS
      refine (r_ret (x_lst1 (z := z) (x_xf T.oex.x T.oex.no hz hv hdd lk_here (xv 6))) fun v H3 k3 hv => ?_).sw
      rw [hrt]
      obtain ⟨p, rfl, hp⟩ := hv
      exact q _ H3 (hex.trans k3) ⟨p, rfl, hp⟩
    · intro W pn xe tk hW
      refine r_resB (B := False) 7 8 9 (lo := 0) (hi := 0) (l := []) (Gets.imp (P := fun _ _ => False) (x_callS (has_done T) (hr.mono (by decide)) tk (a_done (xv 0) (xv 1) (xv 2) (xv 3) (xv 4) (xv 5)) fun vs H1 k1 hv Q' qq => ?_) fun v H1 _ h => h.elim) (fun hB => hB.elim) sc_do.nd
      · obtain ⟨t, rfl, ht⟩ := hv
        refine ⟨op, m, t, a, b, c, f, rfl, ht, ?_⟩
        rw [hd]
        exact fun d H2 k2 hx => hW _ H2 ⟨k1.trans k2, d, rfl, hx⟩
  | ok r =>
    obtain ⟨lo, hi, l⟩ := r
    rw [hd] at q
    have hs := done_sm hd
    refine r_tryAs 6 (fun _ _ => False) ⟨rfl, by decide, Or.inl T.g_Refused⟩ T.oex.e sc_do.nd (fun a d oe pn H2 D' hS => hS.elim) ?_
    intro W pn xe tk hW
    refine r_res 7 8 9 (x_callS (P := Res lo hi l) (has_done T) (hr.mono (by decide)) tk (a_done (xv 0) (xv 1) (xv 2) (xv 3) (xv 4) (xv 5)) fun vs H1 k1 hv Q' qq => ?_) (fun g H1 k1 hf => r_nil fun H2 k2 => ?_) sc_do.nd
    · obtain ⟨t, rfl, ht⟩ := hv
      refine ⟨op, m, t, a, b, c, f, rfl, ht, ?_⟩
      rw [hd]
      exact qq
    · refine (r_ret (x_ans (zs := [0, (lo : Int), (hi : Int), (FwOps.giving f l : Nat)]) (ac xi (ac (xv 7) (ac (xv 8) (a1 (x_pv (has_with_flags T) (hr.mono (by decide)) (f, g, l) (ac (xv 5) (a1 (xv 9))) fun H3 k3 => ⟨(hf.mono k2).mono k3, hs⟩))))) (show 4 ≤ 1000 by decide)) fun v H3 k3 hv => ?_).sw
      exact q v H3 ((k1.trans k2).trans k3) hv
end
theorem run (w : World) : HandSHeadRun.RunEqS RR qv hk ob 3000 names w := by
  intro os
  kernel_rfl
end Fw
open PySem PySem.W PySem.Calls PyProof.Rows
theorem PySem.Challenge.cw_flagwork_s01_do_holds : PySem.Challenge.rw_flagwork_s01_do.Holds := by
  w_on
  refine HandSHeadRun.head_spec (r := Fw.RR) (q := Fw.qv) (H := Fw.hk) (ob := Fw.ob) (M := 3000) (loose := Fw.names) (d := Fw.lawDef) (kwd := []) Fw.ob_eq
    (by kernel_rfl) (fun s => by kernel_rfl) Fw.run (by kernel_rfl) (by kernel_rfl) (by kernel_rfl) os_shapes (by first | assumption | decide +kernel) (by decide +kernel) ⟨rfl, rfl, rfl, rfl, rfl, by decide +kernel⟩ ?hw ?hc
  case hw => exact ⟨[.int 0, .int 8, .int 0, .int 0, .int 0, .int 0], by decide +kernel, by decide +kernel⟩
  case hc =>
    refine Fw.walk_specE (k := 8) (ps := ["op", "width", "a", "b", "c", "flags"]) (by decide +kernel) rfl ⟨rfl, by decide, by decide⟩ ?F
    intro w mg fa h Y G hmg
    obtain ⟨K, KX, c⟩ := Y
    have T : Fw.Top K mg := ⟨c, h, KX, G⟩
    obtain rfl := Fw.law_at (n := "do") hmg (by kernel_rfl) T.g_do
    obtain ⟨fd, hb, hF⟩ := Fw.law_ok (P := Fw.RR.prog) (w := w) T
    refine ⟨K, fd, Fw.spLaw, KX, hb, fun H xs a hO hwi hask hx => ?_, fun base _ _ => hF base⟩
    obtain ⟨z1, z2, z3, z4, z5, z6, u⟩ := a
    have e1 := Fw.dw_ints [z1, z2, z3, z4, z5, z6] xs hx
    have q : (Codec.inInt 0 255 z1 && (Codec.inInt 0 255 z2 && (Codec.inInt 0 18446744073709551615 z3 && (Codec.inInt 0 18446744073709551615 z4 && (Codec.inInt 0 18446744073709551615 z5 && (Codec.inInt 0 4294967295 z6 && true)))))) = true := hwi
    simp only [Bool.and_eq_true] at q
    obtain ⟨n1, rfl⟩ := Int.eq_ofNat_of_zero_le (Fw.in_int q.1).1
    obtain ⟨n2, rfl⟩ := Int.eq_ofNat_of_zero_le (Fw.in_int q.2.1).1
    obtain ⟨n3, rfl⟩ := Int.eq_ofNat_of_zero_le (Fw.in_int q.2.2.1).1
    obtain ⟨n4, rfl⟩ := Int.eq_ofNat_of_zero_le (Fw.in_int q.2.2.2.1).1
    obtain ⟨n5, rfl⟩ := Int.eq_ofNat_of_zero_le (Fw.in_int q.2.2.2.2.1).1
    obtain ⟨n6, rfl⟩ := Int.eq_ofNat_of_zero_le (Fw.in_int q.2.2.2.2.2.1).1
    refine ⟨⟨n1, n2, n3, n4, n5, n6⟩, e1, trivial, fun v H2 e2 hp => ?_⟩
    obtain ⟨p, rfl, hp⟩ := hp
    show L2.Dw K H2 (.ref p) (Codec.encList WData.int (PyWqacds.do_ n1 n2 n3 n4 n5 n6))
    rw [Fw.spec_do]
    exact .lst (L2.SqL.of hp) (L2.dw_ints (Fw.doZ n1 n2 n3 n4 n5 n6))
#print axioms PySem.Challenge.cw_flagwork_s01_do_holds

import PyProof.Rows.All
import Wide.All
import OpenK.AllK
import Wide.FinOn
import HandS.ForMost
import HandS.Wide
import HandS.Style
import HandS.Evl
import HandS.ForExc
import HandS.Codes
import HandS.NoneIn
import HandS.ExcInit
import HandS.ExcField
import HandS.IsInst
import HandS.Defaults
import HandS.ExcOwn
import HandS.CallSlots
import HandS.WordsExc
import HandS.OwnEq
import KE.KExcSuper
import KE.RegKSuper
import KE.KTryMore
import KE.KOpsOwn
import HandS.Text
import PySem.Challenge.RW_wordquarry_k01_shares
set_option Elab.async false
set_option linter.all false
set_option maxRecDepth 100000
set_option maxHeartbeats 4000000
/-! Shares: the plain law. -/
namespace Sh
/-- t / b is the least form of x / y -/
structure Lst (t b x y : Int) : Prop where
  e : t * y = x * b
  p : 0 < b
  g : Int.gcd t b = 1
  bt : t.natAbs ≤ x.natAbs
  bb : b.natAbs ≤ y.natAbs
def by_ (x y : Int) : Int := if 0 < y then (Int.gcd x y : Int) else -(Int.gcd x y : Int)
theorem by_ne {x y : Int} (h : y ≠ 0) : by_ x y ≠ 0 := by
  have : 0 < Int.gcd x y := Int.gcd_pos_of_ne_zero_right x h
  unfold by_
  split <;> omega
theorem lst_mk {x y : Int} (h : y ≠ 0) : Lst (x.fdiv (by_ x y)) (y.fdiv (by_ x y)) x y := by
  have hg : 0 < Int.gcd x y := Int.gcd_pos_of_ne_zero_right x h
  obtain ⟨u, hu⟩ := Int.gcd_dvd_left x y
  obtain ⟨v, hv⟩ := Int.gcd_dvd_right x y
  have huv : Int.gcd u v = 1 := by
    have e : Int.gcd ((Int.gcd x y : Int) * u) ((Int.gcd x y : Int) * v) = Int.gcd x y := by rw [← hu, ← hv]
    rw [Int.gcd_mul_left] at e
    have e2 : Int.gcd x y * Int.gcd u v = Int.gcd x y * 1 := by rw [Nat.mul_one]; simpa using e
    exact Nat.eq_of_mul_eq_mul_left hg e2
  have key : ∀ q r : Int, x = by_ x y * q → y = by_ x y * r → 0 < r → Int.gcd q r = 1 → Lst (x.fdiv (by_ x y)) (y.fdiv (by_ x y)) x y := fun q r hq hr hp hgc => by
    have hb := by_ne (x := x) h
    have e1 : x.fdiv (by_ x y) = q := by
      conv => lhs; arg 1; rw [hq]
      exact Int.mul_fdiv_cancel_left _ hb
    have e2 : y.fdiv (by_ x y) = r := by
      conv => lhs; arg 1; rw [hr]
      exact Int.mul_fdiv_cancel_left _ hb
    rw [e1, e2]
    generalize by_ x y = s at hq hr hb
    subst hq hr
    have h1 : 1 ≤ s.natAbs := by omega
    refine ⟨by rw [Int.mul_comm s r, ← Int.mul_assoc, Int.mul_comm (q * r) s, Int.mul_assoc], hp, hgc, ?_, ?_⟩
    · rw [Int.natAbs_mul]; exact Nat.le_mul_of_pos_left _ h1
    · rw [Int.natAbs_mul]; exact Nat.le_mul_of_pos_left _ h1
  unfold by_ at key ⊢
  by_cases hy : 0 < y
  · rw [if_pos hy] at key ⊢
    refine key u v hu hv ?_ huv
    refine Decidable.byContradiction fun z => ?_
    have : (Int.gcd x y : Int) * v ≤ 0 := Int.mul_nonpos_of_nonneg_of_nonpos (by omega) (by omega)
    omega
  · rw [if_neg hy] at key ⊢
    refine key (-u) (-v) (by rw [Int.neg_mul_neg]; exact hu) (by rw [Int.neg_mul_neg]; exact hv) ?_ (by rw [Int.gcd_neg, Int.neg_gcd]; exact huv)
    refine Decidable.byContradiction fun z => ?_
    have : 0 ≤ (Int.gcd x y : Int) * v := Int.mul_nonneg (by omega) (by omega)
    omega
/-- the sign of a comparison -/
theorem cmp_sign {D G Y B : Int} (h : D * Y = G * B) (hB : 0 < B) (hY : Y ≠ 0) : (0 < D ↔ 0 < G * (if 0 < Y then 1 else -1)) ∧ (D < 0 ↔ G * (if 0 < Y then 1 else -1) < 0) := by
  have pp : ∀ {a b : Int}, 0 < a → 0 < b → 0 < a * b := fun h1 h2 => Int.mul_pos h1 h2
  have pn : ∀ {a b : Int}, 0 < a → b < 0 → a * b < 0 := fun h1 h2 => Int.mul_neg_of_pos_of_neg h1 h2
  have np : ∀ {a b : Int}, a < 0 → 0 < b → a * b < 0 := fun h1 h2 => Int.mul_neg_of_neg_of_pos h1 h2
  have nn : ∀ {a b : Int}, a < 0 → b < 0 → 0 < a * b := fun h1 h2 => Int.mul_pos_of_neg_of_neg h1 h2
  have hD : D < 0 ∨ D = 0 ∨ 0 < D := by omega
  have hG : G < 0 ∨ G = 0 ∨ 0 < G := by omega
  by_cases hy : 0 < Y
  · rw [if_pos hy, Int.mul_one]
    rcases hD with d | d | d
    · have := np d hy
      rcases hG with g | g | g
      · omega
      · subst g; rw [Int.zero_mul] at h; omega
      · have := pp g hB; omega
    · subst d
      rw [Int.zero_mul] at h
      rcases hG with g | g | g
      · have := np g hB; omega
      · omega
      · have := pp g hB; omega
    · have := pp d hy
      rcases hG with g | g | g
      · have := np g hB; omega
      · subst g; rw [Int.zero_mul] at h; omega
      · omega
  · have hy : Y < 0 := by omega
    rw [if_neg (by omega)]
    rcases hD with d | d | d
    · have := nn d hy
      rcases hG with g | g | g
      · have := np g hB; omega
      · subst g; rw [Int.zero_mul] at h; omega
      · omega
    · subst d
      rw [Int.zero_mul] at h
      rcases hG with g | g | g
      · have := np g hB; omega
      · omega
      · have := pp g hB; omega
    · have := pn d hy
      rcases hG with g | g | g
      · omega
      · subst g; rw [Int.zero_mul] at h; omega
      · have := pp g hB; omega
theorem cmp_two {t b x y t2 b2 x2 y2 : Int} (h : t * y = x * b) (h2 : t2 * y2 = x2 * b2) : (t * b2 - t2 * b) * (y * y2) = (x * y2 - x2 * y) * (b * b2) := by
  have e1 : (t * b2 - t2 * b) * (y * y2) = (t * y) * (b2 * y2) - (t2 * y2) * (b * y) := by grind
  rw [e1, h, h2]
  grind
theorem add_two {t b x y t2 b2 x2 y2 t3 b3 : Int} (h : t * y = x * b) (h2 : t2 * y2 = x2 * b2) (hb : b ≠ 0) (hb2 : b2 ≠ 0) (h3 : t3 * (b * b2) = (t * b2 + t2 * b) * b3) : t3 * (y * y2) = (x * y2 + x2 * y) * b3 := by
  have hbb : b * b2 ≠ 0 := Int.mul_ne_zero hb hb2
  refine Int.eq_of_mul_eq_mul_right hbb ?_
  have e1 : t3 * (y * y2) * (b * b2) = (t3 * (b * b2)) * (y * y2) := by grind
  rw [e1, h3]
  have e2 : (t * b2 + t2 * b) * b3 * (y * y2) = ((t * y) * (b2 * y2) + (t2 * y2) * (b * y)) * b3 := by grind
  rw [e2, h, h2]
  grind
theorem sub_two {t b x y t2 b2 x2 y2 t3 b3 : Int} (h : t * y = x * b) (h2 : t2 * y2 = x2 * b2) (hb : b ≠ 0) (hb2 : b2 ≠ 0) (h3 : t3 * (b * b2) = (t * b2 - t2 * b) * b3) : t3 * (y * y2) = (x * y2 - x2 * y) * b3 := by
  have hbb : b * b2 ≠ 0 := Int.mul_ne_zero hb hb2
  refine Int.eq_of_mul_eq_mul_right hbb ?_
  have e1 : t3 * (y * y2) * (b * b2) = (t3 * (b * b2)) * (y * y2) := by grind
  rw [e1, h3]
  have e2 : (t * b2 - t2 * b) * b3 * (y * y2) = ((t * y) * (b2 * y2) - (t2 * y2) * (b * y)) * b3 := by grind
  rw [e2, h, h2]
  grind
theorem mul_two {t b x y t2 b2 x2 y2 t3 b3 : Int} (h : t * y = x * b) (h2 : t2 * y2 = x2 * b2) (hb : b ≠ 0) (hb2 : b2 ≠ 0) (h3 : t3 * (b * b2) = (t * t2) * b3) : t3 * (y * y2) = (x * x2) * b3 := by
  have hbb : b * b2 ≠ 0 := Int.mul_ne_zero hb hb2
  refine Int.eq_of_mul_eq_mul_right hbb ?_
  have e1 : t3 * (y * y2) * (b * b2) = (t3 * (b * b2)) * (y * y2) := by grind
  rw [e1, h3]
  have e2 : (t * t2) * b3 * (y * y2) = ((t * y) * (t2 * y2)) * b3 := by grind
  rw [e2, h, h2]
  grind
theorem div_two {t b x y t2 b2 x2 y2 t3 b3 : Int} (h : t * y = x * b) (h2 : t2 * y2 = x2 * b2) (hb : b ≠ 0) (hb2 : b2 ≠ 0) (h3 : t3 * (b * t2) = (t * b2) * b3) : t3 * (y * x2) = (x * y2) * b3 := by
  have hbb : b * b2 ≠ 0 := Int.mul_ne_zero hb hb2
  refine Int.eq_of_mul_eq_mul_right hbb ?_
  have e1 : t3 * (y * x2) * (b * b2) = t3 * b * y * (x2 * b2) := by grind
  rw [e1, ← h2]
  have e2 : t3 * b * y * (t2 * y2) = (t3 * (b * t2)) * (y * y2) := by grind
  rw [e2, h3]
  have e3 : t * b2 * b3 * (y * y2) = (t * y) * (b2 * b3 * y2) := by grind
  rw [e3, h]
  grind
end Sh

/-! ### the call of a def by its name; constants of the module; heaps -/
namespace Pre
open PySem L2
abbrev ks (x : Str) : Key := Sum.inr x
structure Cal (P : Program) (w : World) (K : PySem.W.Frag) (mg : Str → Option Value) (base : Heap) (k : Nat) (x : Str) (sp : Sp) : Prop where
  ex : ∃ (f : Addr) (fd : FuncData) (ps : List Str), FnOk P w K mg base CX0 k f fd ps sp ∧ mg x = some (.ref f) ∧ PySem.W.keepIn K (.ref f) = true ∧ Binds K fd ps []
section
variable {X : Cx} {k j : Nat} {x : Str} {sp : Sp} {e : Expr} {es : List Expr} {t : TA} {p pos : Pos}
theorem pcal (c : Cal X.prog X.w X.K X.mg X.base k x sp) (hr : Room j X.A) (hk : k ≤ j) (hg : Gl X x) (ha : PA X (e :: es) t)
    (hdb : (x == ("__debug__" : Str)) = false := by decide) (he : starEach (e :: es) X.env = (false, eval e X.env) :: starEach es X.env := by rfl) (hpl : (backTo pos (starEach es X.env)).any (·.1) = false := by rfl) :
    PE X (.Call (.Name x p) (e :: es) [] pos) (tCall sp [] E0 t) := by
  obtain ⟨f, fd, ps, F, hm, kp, b⟩ := c.ex
  exact pe_call F (hr.mono hk) hg hm kp b .nil pass0 ha hdb he hpl
theorem pcal0 (c : Cal X.prog X.w X.K X.mg X.base k x sp) (hr : Room j X.A) (hk : k ≤ j) (hg : Gl X x) (hdb : (x == ("__debug__" : Str)) = false := by decide) :
    PE X (.Call (.Name x p) [] [] pos) (tCall sp [] E0 tNil) := by
  obtain ⟨f, fd, ps, F, hm, kp, b⟩ := c.ex
  exact pe_call0 F (hr.mono hk) hg hm kp b .nil pass0 hdb
def GlV (mg : Str → Option Value) (x : Str) (v : V) : Prop := ∃ u, mg x = some u ∧ RelV v u
theorem pgl {v : V} (hg : Gl X x) (h : GlV X.mg x v) (hd : (x == ("__debug__" : Str)) = false := by decide) : PE X (.Name x pos) (tC v) := by
  obtain ⟨u, h1, h2⟩ := h
  exact pe_glob hg h1 h2 hd
end
theorem cal_of {P : Program} {w : World} {K : PySem.W.Frag} {mg : Str → Option Value} {base : Heap} {k : Nat} {x q : Str} {st : Stmt} {f : Addr} {fd : FuncData} {ps : List Str} {sp : Sp} (F : Fun K x q st f fd) (ok : FnOk P w K mg base CX0 k f fd ps sp) (hm : mg x = some (.ref f)) (b : Binds K fd ps []) : Cal P w K mg base k x sp := ⟨f, fd, ps, ok, hm, F.kp, b⟩
theorem Cal.mono {P : Program} {w : World} {K : PySem.W.Frag} {mg : Str → Option Value} {base : Heap} {k j : Nat} {x : Str} {sp : Sp} (c : Cal P w K mg base k x sp) (h : k ≤ j) : Cal P w K mg base j x sp := by
  obtain ⟨f, fd, ps, F, hm, kp, b⟩ := c.ex
  exact ⟨f, fd, ps, F.mono h, hm, kp, b⟩
/-! ### the reading, step by step -/
section
variable {σ : L2.St} {H : Hp} {D : Ends} {Q : VK} {v x y z : V} {i j : Nat} {ta tb te td ty tc : TE} {t u : TS} {tt tt' : TT} {r r' : R2} {g : TG} {K : PySem.W.Frag}
theorem g_seq (h : t { D with nx := u D } σ H) : tSeq t u D σ H := h
theorem g_next (h : D.nx σ H) : tNext D σ H := h
theorem g_var (e : σ[i]? = some (some v)) (h : Q v H) : tVar i σ H Q := ⟨v, e, h⟩
theorem g_c (h : Q v H) : tC v σ H Q := h
theorem g_op (h : ta σ H fun x H1 => tb σ H1 fun y H2 => r x y H2 Q) : tOp r ta tb σ H Q := h
theorem g_chain (h : ta σ H fun x H1 => tb σ H1 fun y H2 => r x y H2 fun z H3 => ∃ k, z = .bl k ∧ (if k = true then tc σ H3 fun w' H4 => r' y w' H4 Q else Q (.bl false) H3)) : tChain r r' ta tb tc σ H Q := h
theorem g_un {r : V → Hp → VK → Prop} (h : ta σ H fun x H1 => r x H1 Q) : tUn r ta σ H Q := h
theorem g_rU {g : Int → V} {a : Int} (h : Q (g a) H) : rU g (.int a) H Q := ⟨a, rfl, h⟩
theorem g_rI0 {g : Int → Int → V} {a b : Int} (h : Q (g a b) H) : rI0 g (.int a) (.int b) H Q := ⟨a, b, rfl, rfl, h⟩
theorem g_rI {C : Int → Int → Prop} {g : Int → Int → V} {a b : Int} (c : C a b) (h : Q (g a b) H) : rI C g (.int a) (.int b) H Q := ⟨a, b, rfl, rfl, c, h⟩
theorem g_eq (c : scal x y = true) (h : Q (.bl (decide (x = y))) H) : rEq x y H Q := ⟨c, h⟩
theorem g_ne (c : scal x y = true) (h : Q (.bl (!decide (x = y))) H) : rNe x y H Q := ⟨c, h⟩
theorem g_test {Q : Bool → Hp → Prop} (h : te σ H fun x H' => ∃ k, x = .bl k ∧ Q k H') : tTest te σ H Q := h
theorem g_B {Q : Bool → Hp → Prop} (h : te σ H fun x H' => ∃ k, x = .bl k ∧ Q k H') : tB te σ H Q := h
theorem g_k {b : Bool} {Q : Bool → Prop} (h : Q b) : ∃ k, V.bl b = .bl k ∧ Q k := ⟨b, rfl, h⟩
theorem g_and {Q : Bool → Hp → Prop} (h : tt σ H fun c H1 => if c = true then tt' σ H1 Q else Q false H1) : tAnd tt tt' σ H Q := h
theorem g_or {Q : Bool → Hp → Prop} (h : tt σ H fun c H1 => if c = true then Q true H1 else tt' σ H1 Q) : tOr tt tt' σ H Q := h
theorem g_not {Q : Bool → Hp → Prop} (h : tt σ H fun c H1 => Q (!c) H1) : tNot tt σ H Q := h
theorem g_yes {Q : Bool → Hp → Prop} (h : Q true H) : tYes σ H Q := h
theorem g_andV (h : ta σ H fun x H1 => ∃ c, x = .bl c ∧ if c = true then tb σ H1 Q else Q (.bl false) H1) : tAndV ta tb σ H Q := h
theorem g_orV (h : ta σ H fun x H1 => ∃ c, x = .bl c ∧ if c = true then Q (.bl true) H1 else tb σ H1 Q) : tOrV ta tb σ H Q := h
theorem g_notV (h : ta σ H fun x H1 => ∃ c, x = .bl c ∧ Q (.bl (!c)) H1) : tNotV ta σ H Q := h
theorem g_ifE (h : tt σ H fun c H1 => if c = true then ta σ H1 Q else tb σ H1 Q) : tIf tt ta tb σ H Q := h
theorem g_ifS (h : tt σ H fun b H1 => if b = true then t D σ H1 else u D σ H1) : tIfS tt t u D σ H := h
theorem g_asg (h : te σ H fun x H1 => g x σ H1 D.nx) : tAsg te g D σ H := h
theorem g_name {Q : L2.St → Hp → Prop} (h : Q (σ.set i (some v)) H) : gName i v σ H Q := h
theorem g_drop (h : te σ H fun _ H1 => D.nx σ H1) : tDrop te D σ H := h
theorem g_ret (h : te σ H D.rt) : tRet te D σ H := h
theorem g_brk (h : D.bk σ H) : tBreak D σ H := h
theorem g_cnt (h : D.ct σ H) : tCont D σ H := h
theorem g_nil {Q : List V → Hp → Prop} (h : Q [] H) : tNil σ H Q := h
theorem g_cons {ta : TE} {tr : TA} {Q : List V → Hp → Prop} (h : ta σ H fun x H1 => tr σ H1 fun xs H2 => Q (x :: xs) H2) : tCons ta tr σ H Q := h
theorem g_cb {r : List V → Hp → VK → Prop} {t : TA} (h : t σ H fun vs H1 => r vs H1 Q) : tCB r t σ H Q := h
theorem g_call {sp : Sp} {dvs : List V} {E : XK} {t : TA} (h : t σ H fun vs H1 => sp (vs ++ dvs) H1 Q E) : tCall sp dvs E t σ H Q := h
theorem g_int1 {a : Int} (h : Q (.int a) H) : (∃ i, [V.int a] = [V.int i] ∧ Q (.int i) H) ∨ ∃ k, [V.int a] = [V.bl k] ∧ Q (.int (if k = true then 1 else 0)) H := .inl ⟨a, rfl, h⟩
theorem g_int1b {b : Bool} (h : Q (.int (if b = true then 1 else 0)) H) : (∃ i, [V.bl b] = [V.int i] ∧ Q (.int i) H) ∨ ∃ k, [V.bl b] = [V.bl k] ∧ Q (.int (if k = true then 1 else 0)) H := .inr ⟨b, rfl, h⟩
theorem g_par {ta : TA} (h : ta σ H fun vs H1 => ∃ v w, vs = [v, w] ∧ D.nx ((σ.set i (some v)).set j (some w)) H1) : tPar i j ta D σ H := h
theorem g_par3 {l : Nat} {ta : TA} (h : ta σ H fun vs H1 => ∃ u v w, vs = [u, v, w] ∧ D.nx (((σ.set i (some u)).set j (some v)).set l (some w)) H1) : tPar3 i j l ta D σ H := h
theorem g_p2 {R : V → V → Prop} (h : R x y) : ∃ v w, [x, y] = [v, w] ∧ R v w := ⟨x, y, rfl, h⟩
theorem g_p3 {R : V → V → V → Prop} (h : R x y z) : ∃ u v w, [x, y, z] = [u, v, w] ∧ R u v w := ⟨x, y, z, rfl, h⟩
theorem g_dget (h : td σ H fun x H1 => ty σ H1 fun y H2 => ∃ a v, x = .ref a ∧ DGet H2 a y (some v) ∧ Q v H2) : tDGet td ty σ H Q := h
theorem g_dg {R : V → Prop} {a : Addr} {k : Str} {kvs : List (Key × V)} (hp : H a = some (.dK kvs)) (hv : valV kvs (ks k) = some v) (h : R v) : ∃ a' v', V.ref a = .ref a' ∧ DGet H a' (.str k) (some v') ∧ R v' := ⟨a, v, rfl, .inl ⟨kvs, ks k, .inl hp, rfl, hv.symm⟩, h⟩
theorem g_dput {tv : TE} (h : tv σ H fun v H1 => td σ H1 fun x H2 => ty σ H2 fun y H3 => ∃ a H4, x = .ref a ∧ DPut H3 a y v H4 ∧ D.nx σ H4) : sDPut td ty tv D σ H := h
theorem g_dp {a : Addr} {k : Str} {kvs kvs' : List (Key × V)} {R : Hp → Prop} (hp : H a = some (.dK kvs)) (hl : kvs.length < sizeLine) (hv : putK kvs (ks k) v = kvs') (h : R (upd H a (.dK kvs'))) : ∃ a' H4, V.ref a = .ref a' ∧ DPut H a' (.str k) v H4 ∧ R H4 := ⟨a, _, rfl, .inl ⟨kvs, ks k, hp, rfl, hl, rfl⟩, by rw [hv]; exact h⟩
theorem dget {a : Addr} {k : Str} {kvs : List (Key × V)} (hp : H a = some (.dK kvs)) (hv : valV kvs (ks k) = some v) : DGet H a (.str k) (some v) := .inl ⟨kvs, ks k, .inl hp, rfl, hv.symm⟩
theorem g_lenS {p : Addr} {ys : List V} (hs : SqL K H p ys) (h : Q (.int ys.length) H) : ∃ p' ys', [V.ref p] = [.ref p'] ∧ (SqL K H p' ys' ∨ SqT K H p' ys') ∧ Q (.int ys'.length) H := ⟨p, ys, rfl, .inl hs, h⟩
theorem g_lenT {p : Addr} {ys : List V} (hs : SqT K H p ys) (h : Q (.int ys.length) H) : ∃ p' ys', [V.ref p] = [.ref p'] ∧ (SqL K H p' ys' ∨ SqT K H p' ys') ∧ Q (.int ys'.length) H := ⟨p, ys, rfl, .inr hs, h⟩
theorem g_ixL {p : Addr} {xs : List V} {a : Int} (hs : SqL K H p xs) (ha : atI xs a = some v) (h : Q v H) : rIxL K (.ref p) (.int a) H Q := ⟨p, xs, a, v, rfl, rfl, hs, ha, h⟩
theorem g_ixT {p : Addr} {xs : List V} {a : Int} (hs : SqT K H p xs) (ha : atI xs a = some v) (h : Q v H) : rIxT K (.ref p) (.int a) H Q := ⟨p, xs, a, v, rfl, rfl, hs, ha, h⟩
theorem g_lst {t : TA} (h : t σ H fun xs H1 => xs.length ≤ sizeLine ∧ ∀ p, H1 p = none → Q (.ref p) (upd H1 p (.lst xs))) : tLst t σ H Q := h
theorem g_tup {t : TA} (h : t σ H fun xs H1 => xs.length ≤ sizeLine ∧ ∀ p, H1 p = none → Q (.ref p) (upd H1 p (.tup xs))) : tTup t σ H Q := h
theorem g_new {xs : List V} {R : Addr → Prop} (hl : xs.length ≤ sizeLine) (h : ∀ p, H p = none → R p) : xs.length ≤ sizeLine ∧ ∀ p, H p = none → R p := ⟨hl, h⟩
theorem g_if1 {A B : Prop} (h : A) : if true = true then A else B := iteT h
theorem g_if0 {A B : Prop} (h : B) : if false = true then A else B := iteF h
theorem g_pn {Q : List (V × V) → Hp → Prop} (h : Q [] H) : tPairs [] σ H Q := h
theorem g_pc {tk tv : TE} {r : List (TE × TE)} {Q : List (V × V) → Hp → Prop} (h : tk σ H fun x H1 => tv σ H1 fun y H2 => tPairs r σ H2 fun ps H3 => Q ((x, y) :: ps) H3) : tPairs ((tk, tv) :: r) σ H Q := h
theorem g_disp {trs : List (TE × TE)} (h : ∀ p, H p = none → tPairs trs σ (upd H p (.dK [])) fun ps H2 => H2 p = some (.dK []) ∧ ∃ kvs : List (Key × V), ps = kvs.map (fun kv => (kV kv.1, kv.2)) ∧ kvs.length ≤ 15 ∧ Q (.ref p) (upd H2 p (.dK (mergeK [] kvs)))) : tDisp trs σ H Q := h
theorem g_while {c : TT} {tb : TS} (W : Nat → L2.St → Hp → Prop) (m : Nat) (h0 : W m σ H)
    (hs : ∀ m σ H, W m σ H → c σ H fun b H1 => if b = true then ∃ N : L2.St → Hp → Prop, (∀ σ' H', N σ' H' → ∃ m', m' < m ∧ W m' σ' H') ∧ tb { D with nx := N, ct := N, bk := D.nx } σ H1 else D.nx σ H1) : tWhile c tb D σ H := ⟨W, ⟨m, h0⟩, hs⟩
theorem g_bm {T : String} {r : V → List V → Hp → VK → Prop} {to : TE} {t : TA} (h : to σ H fun x H1 => tyV K T x H1 ∧ t σ H1 fun xs H2 => r x xs H2 Q) : tBM K T r to t σ H Q := h
theorem g_bm0 {T : String} {r : V → List V → Hp → VK → Prop} {to : TE} (h : to σ H fun x H1 => tyV K T x H1 ∧ r x [] H1 Q) : tBM0 K T r to σ H Q := h
theorem g_revL (h : te σ H fun x H1 => ∃ a xs, x = .ref a ∧ SqL K H1 a xs ∧ ∀ p, H1 p = none → Q (.ref p) (upd H1 p (.lst xs.reverse))) : tRevL K te σ H Q := h
theorem g_sl {r : V → Option Int → Option Int → Hp → VK → Prop} {tl th : TO} (h : te σ H fun x H1 => tl σ H1 fun l H2 => th σ H2 fun u H3 => r x l u H3 Q) : tSl r te tl th σ H Q := h
theorem g_aug {ti : TIp} (e : σ[i]? = some (some x)) (h : te σ H fun y H1 => ti x y H1 fun z H2 => D.nx (σ.set i (some z)) H2) : tAug i te ti D σ H := ⟨x, e, h⟩
theorem g_ipI {f : Int → Int → Int} {a b : Int} (h : Q (.int (f a b)) H) : ipI f (.int a) (.int b) H Q := ⟨a, b, rfl, rfl, h⟩
theorem g_vi {a : Int} {R : Int → Prop} (h : R a) : ∃ i, V.int a = V.int i ∧ R i := ⟨a, rfl, h⟩
theorem g_id {Q : VK} (h : Q v H) : id Q v H := h
theorem g_i1 {a : Int} {R : Int → Prop} (h : R a) : ∃ i, [V.int a] = [V.int i] ∧ R i := ⟨a, rfl, h⟩
theorem g_s1 {a : Str} {R : Str → Prop} (h : R a) : ∃ i, [V.str a] = [V.str i] ∧ R i := ⟨a, rfl, h⟩
theorem g_tfld {f : Str} (h : te σ H fun x H1 => ∃ a C dx fs v, x = .ref a ∧ H1 a = some (.ins C dx fs) ∧ Cls K C ∧ NoAttr K C f ∧ fs.lookup f = some v ∧ Q v H1) : tFld K te f σ H Q := h
theorem g_gtup {n : Nat} {t : TGs} {p : Addr} {xs : List V} {Q : L2.St → Hp → Prop} (hs : SqT K H p xs) (hl : xs.length = n) (h : t xs σ H Q) : gTup K n t (.ref p) σ H Q := ⟨p, xs, rfl, hs, hl, h⟩
theorem g_gcons {t : TG} {u : TGs} {r : List V} {Q : L2.St → Hp → Prop} (h : t v σ H fun σ' H' => u r σ' H' Q) : gCons t u (v :: r) σ H Q := ⟨v, r, rfl, h⟩
theorem g_gnil {Q : L2.St → Hp → Prop} (h : Q σ H) : gNil [] σ H Q := ⟨rfl, h⟩
theorem g_meth {C : Addr} {m : Str} {sp : Sp} {dvs : List V} {E : XK} {t : TA} (h : ta σ H fun x H1 => ∃ a dx fs, x = .ref a ∧ H1 a = some (.ins C dx fs) ∧ fs.lookup m = none ∧ t σ H1 fun vs H2 => sp (x :: (vs ++ dvs)) H2 Q E) : tMeth C m sp dvs E ta t σ H Q := h
theorem g_make {C : Addr} {sp : Sp} {dvs : List V} {E : XK} {t : TA} (h : t σ H fun vs H1 => ∀ x dx, H1 x = none → H1 dx = none → dx ≠ x → sp (.ref x :: (vs ++ dvs)) (upd (upd H1 dx (.own x)) x (.ins C dx [])) (fun v H2 => v = .non ∧ Q (.ref x) H2) E) : tMake C sp dvs E t σ H Q := h
theorem g_callS {sp : Sp} {E : L2.St → XK} {t : TA} (h : t σ H fun vs H1 => sp vs H1 Q (E σ)) : tCallS sp E t σ H Q := h
theorem g_np {Q : Option Int → Hp → Prop} (h : Q none H) : tNoPart σ H Q := h
theorem g_part {Q : Option Int → Hp → Prop} (h : te σ H fun x H1 => ∃ i, x = .int i ∧ Q (some i) H1) : tPart te σ H Q := h
theorem g_sub {to ti : TE} {t : TSet} {Q : L2.St → Hp → Prop} (h : to σ H fun o H1 => ti σ H1 fun i H2 => t o i v H2 fun H3 => Q σ H3) : gSub to ti t v σ H Q := h
theorem g_for {wi : TI} {tb : TS} (h : wi σ H fun J H1 => ∃ W : Nat → Nat → L2.St → Hp → Prop, (∃ m, W 0 m σ H1) ∧ ∀ i m σ H, W i m σ H → (J.stop i H ∧ D.nx σ H) ∨ (J.go i H ∧ ∃ N : L2.St → Hp → Prop, (∀ σ' H', N σ' H' → ∃ m', m' < m ∧ W (i + 1) m' σ' H') ∧ ∀ x H', J.yld i H x H' → g x σ H' fun σ2 H2 => tb { D with nx := N, ct := N, bk := D.nx } σ2 H2)) : tFor wi g tb D σ H := h
theorem g_iList {R : It → Hp → Prop} (h : te σ H fun x H1 => ∃ a, x = .ref a ∧ (∃ xs, SqL K H1 a xs) ∧ R (Itl K a) H1) : iList K te σ H R := h
theorem g_iTup {R : It → Hp → Prop} (h : te σ H fun x H1 => ∃ a, x = .ref a ∧ (∃ xs, SqT K H1 a xs) ∧ R (Itt K a) H1) : iTup K te σ H R := h
theorem g_rng1 {R : It → Hp → Prop} {ta : TA} (h : ta σ H fun vs H1 => ∃ j : Int, vs = [.int j] ∧ -(2 ^ 62) ≤ j ∧ j < 2 ^ 62 ∧ R (Itr 0 j.toNat) H1) : iRng1 ta σ H R := h
theorem g_rng2 {R : It → Hp → Prop} {ta : TA} (h : ta σ H fun vs H1 => ∃ i j : Int, vs = [.int i, .int j] ∧ (-(2 ^ 62) ≤ i ∧ i < 2 ^ 62 ∧ -(2 ^ 62) ≤ j ∧ j < 2 ^ 62) ∧ R (Itr i (j - i).toNat) H1) : iRng2 ta σ H R := h
theorem g_lc {wi : TI} {vs : List Nat} (h : wi σ H fun J H1 => ∀ D, H1 D = none → ∃ W : Nat → Nat → Hp → Prop, (∃ m, W 0 m (upd H1 D (.lst []))) ∧ ∀ i m H, W i m H → (J.stop i H ∧ Q (.ref D) H) ∨ (J.go i H ∧ ∃ Nx : Hp → Prop, (∀ H', Nx H' → ∃ m', m' < m ∧ W (i + 1) m' H') ∧ ∀ x H', J.yld i H x H' → g x (wipe σ vs) H' fun σ2 H2 => wipe σ2 vs = wipe σ vs ∧ tt σ2 H2 fun b H3 => if b = true then te σ2 H3 fun y H4 => ∃ acc, H4 D = some (.lst acc) ∧ acc.length < sizeLine ∧ Nx (upd H4 D (.lst (acc ++ [y]))) else Nx H3)) : tLc wi g tt te vs σ H Q := h
theorem g_cut (M : L2.St → Hp → Prop) (h : t { D with nx := M } σ H) (k : ∀ σ' H', M σ' H' → u D σ' H') : Evl.tCut t u D σ H := ⟨M, h, k⟩
theorem g_if00 {A B : Prop} (h : B) : if (!true) = true then A else B := iteF h
theorem g_ifn {b : Bool} {A B : Prop} (h : if (!b) = true then A else B) : if (if true = true then !b else b) = true then A else B := h
theorem g_ifp {b : Bool} {A B : Prop} (h : if b = true then A else B) : if (if false = true then !b else b) = true then A else B := h
theorem g_if11 {A B : Prop} (h : A) : if (!false) = true then A else B := iteT h
/-- two ways that meet: what both give -/
theorem g_join {c : Prop} [Decidable c] (R : V → Hp → Prop) (h1 : c → ∀ Q' : VK, (∀ v H', R v H' → Q' v H') → ta σ H Q') (h2 : ¬ c → ∀ Q' : VK, (∀ v H', R v H' → Q' v H') → tb σ H Q') (k : ∀ v H', R v H' → Q v H') : if c then ta σ H Q else tb σ H Q := by
  by_cases h : c
  · rw [if_pos h]; exact h1 h Q k
  · rw [if_neg h]; exact h2 h Q k
theorem atI_of {xs : List V} {n : Nat} {a : Int} (e : a = (n : Int)) (h : xs[n]? = some v) : atI xs a = some v := by
  subst e
  exact atI_nat h
end
theorem ixN_of {n i : Nat} {a : Int} (e : a = (i : Int)) (h : i < n) : ixN n a = some i := by
  subst e
  unfold ixN
  rw [if_pos (Int.natCast_nonneg _), if_pos (by omega)]
  rfl
/-- a name that the fields do not have -/
theorem look_no {m : Str} {fs : List (Str × V)} {ks : List Str} (h : m ∉ ks) (e : fs.map (·.1) = ks := by rfl) : fs.lookup m = none := by
  rw [List.lookup_eq_none_iff]
  intro q hq
  refine bne_iff_ne.mpr fun z => h ?_
  rw [← e, z]
  exact List.mem_map_of_mem hq
/-- all but p is kept -/
def Kp (p : Addr) (H H' : Hp) : Prop := ∀ b o, b ≠ p → H b = some o → H' b = some o
theorem Kp.refl {p : Addr} (H : Hp) : Kp p H H := fun _ _ _ h => h
theorem Kp.trans {p : Addr} {H H1 H2 : Hp} (a : Kp p H H1) (b : Kp p H1 H2) : Kp p H H2 := fun c o n h => b c o n (a c o n h)
theorem Kp.of {p : Addr} {H H' : Hp} (h : Same H H') : Kp p H H' := fun b o _ e => h b o e
theorem Kp.put {p : Addr} {H : Hp} {o : HO} : Kp p H (upd H p o) := fun b u n e => by rw [upd_ne n]; exact e
theorem Same.new {H : Hp} {q : Addr} {o : HO} (h : H q = none) : Same H (upd H q o) := fun b u e => by rw [upd_ne (ne_of_none e h)]; exact e
theorem Kp.new {p : Addr} {H : Hp} {q : Addr} {o : HO} (h : H q = none) : Kp p H (upd H q o) := Kp.of (Same.new h)
theorem Kp.free {p : Addr} {H H' : Hp} (e : Kp p H H') {o : HO} (hp : H' p = some o) {l : Addr} (h : H' l = none) : H l = none := by
  cases q : H l with
  | none => rfl
  | some u =>
    have n : l ≠ p := fun z => by rw [z, hp] at h; cases h
    rw [e l u n q] at h
    cases h
theorem Kp.seq {K : PySem.W.Frag} {p : Addr} {H H' : Hp} {a : Addr} {xs : List V} (e : Kp p H H') (n : a ≠ p) (h : SqL K H a xs) : SqL K H' a xs := by
  rcases h with (h | ⟨o, h⟩) | h
  · exact .inl (.inl (e _ _ n h))
  · exact .inl (.inr ⟨o, e _ _ n h⟩)
  · exact .inr h
/-- a list is never a dict -/
theorem seq_ne {K : PySem.W.Frag} {H : Hp} {a p : Addr} {xs : List V} {kvs : List (Key × V)} (hp : H p = some (.dK kvs)) (h : Rd H a (.lst xs)) : a ≠ p := by
  intro z
  subst z
  rcases h with h | ⟨o, h⟩ <;> · rw [hp] at h; cases h
/-! ### the pen -/
theorem kr {a b : Str} (h : ¬ a = b) : ¬ ks a = ks b := fun z => h (Sum.inr.inj z)
def penK (c : Addr) (a d n f : Int) : List (Key × V) := [(ks "cells", .ref c), (ks "at", .int a), (ks "digits", .int d), (ks "count", .int n), (ks "fold", .int f)]
theorem kne1 : ¬ (("cells" : Str) = "at") := by decide +kernel
theorem kne2 : ¬ (("cells" : Str) = "digits") := by decide +kernel
theorem kne3 : ¬ (("cells" : Str) = "count") := by decide +kernel
theorem kne4 : ¬ (("cells" : Str) = "fold") := by decide +kernel
theorem kne5 : ¬ (("at" : Str) = "digits") := by decide +kernel
theorem kne6 : ¬ (("at" : Str) = "count") := by decide +kernel
theorem kne7 : ¬ (("at" : Str) = "fold") := by decide +kernel
theorem kne8 : ¬ (("digits" : Str) = "count") := by decide +kernel
theorem kne9 : ¬ (("digits" : Str) = "fold") := by decide +kernel
theorem kne10 : ¬ (("count" : Str) = "fold") := by decide +kernel
section
variable {c : Addr} {a d n f z : Int}
theorem pen_cells : valV (penK c a d n f) (ks "cells") = some (.ref c) := valV_pos rfl
theorem pen_at : valV (penK c a d n f) (ks "at") = some (.int a) := (valV_neg (kr kne1)).trans (valV_pos rfl)
theorem pen_digits : valV (penK c a d n f) (ks "digits") = some (.int d) := (valV_neg (kr kne2)).trans ((valV_neg (kr kne5)).trans (valV_pos rfl))
theorem pen_count : valV (penK c a d n f) (ks "count") = some (.int n) := (valV_neg (kr kne3)).trans ((valV_neg (kr kne6)).trans ((valV_neg (kr kne8)).trans (valV_pos rfl)))
theorem pen_fold : valV (penK c a d n f) (ks "fold") = some (.int f) := (valV_neg (kr kne4)).trans ((valV_neg (kr kne7)).trans ((valV_neg (kr kne9)).trans ((valV_neg (kr kne10)).trans (valV_pos rfl))))
theorem put_at : putK (penK c a d n f) (ks "at") (.int z) = penK c z d n f := by
  simp [putK, penK, kne1, Ne.symm kne5, Ne.symm kne6, Ne.symm kne7]
theorem put_digits : putK (penK c a d n f) (ks "digits") (.int z) = penK c a z n f := by
  simp [putK, penK, kne2, kne5, Ne.symm kne8, Ne.symm kne9]
theorem put_count : putK (penK c a d n f) (ks "count") (.int z) = penK c a d z f := by
  simp [putK, penK, kne3, kne6, kne8, Ne.symm kne10]
theorem put_fold : putK (penK c a d n f) (ks "fold") (.int z) = penK c a d n z := by
  simp [putK, penK, kne4, kne7, kne9, kne10]
theorem pen_len : (penK c a d n f).length < sizeLine := show 5 < sizeLine by decide
end
/-- a pen stands at p, its cells at c, at most n draws were made -/
def PenAt (H : Hp) (p c : Addr) (n : Nat) : Prop :=
  ∃ (cells : List Int) (a d k f : Int), H p = some (.dK (penK c a d k f)) ∧ H c = some (.lst (cells.map V.int)) ∧ 0 ≤ a ∧ 0 ≤ d ∧ 0 ≤ k ∧ k ≤ n ∧ 0 ≤ f ∧ f < 2147483587
section
variable {H H' H1 : Hp} {p c D : Addr} {n m : Nat} {o : HO}
theorem PenAt.keep (h : PenAt H p c n) (e : Same H H') : PenAt H' p c n := by
  obtain ⟨cells, a, d, k, f, h1, h2, h4⟩ := h
  exact ⟨cells, a, d, k, f, e _ _ h1, e _ _ h2, h4⟩
theorem PenAt.mono (h : PenAt H p c n) (e : n ≤ m) : PenAt H p c m := by
  obtain ⟨cells, a, d, k, f, h1, h2, h4, h5, h6, h7, h8⟩ := h
  exact ⟨cells, a, d, k, f, h1, h2, h4, h5, h6, by omega, h8⟩
theorem PenAt.ne (h : PenAt H p c n) (hD : H D = none) : D ≠ p ∧ D ≠ c := by
  obtain ⟨cells, a, d, k, f, h1, h2, _⟩ := h
  exact ⟨(ne_of_none h1 hD).symm, (ne_of_none h2 hD).symm⟩
theorem PenAt.upd (h : PenAt H p c n) (h1 : D ≠ p) (h2 : D ≠ c) : PenAt (upd H D o) p c n := by
  obtain ⟨cells, a, d, k, f, e1, e2, h4⟩ := h
  exact ⟨cells, a, d, k, f, by rw [upd_ne h1.symm]; exact e1, by rw [upd_ne h2.symm]; exact e2, h4⟩
/-- what is no dict stands apart from the pen -/
theorem PenAt.lst (h : PenAt H p c n) {q : Addr} {xs : List V} (hq : H q = some (.lst xs)) : q ≠ p := by
  obtain ⟨cells, a, d, k, f, e1, e2, h4⟩ := h
  exact ne_of hq e1 (by intro z; cases z)
theorem PenAt.tup (h : PenAt H p c n) {q : Addr} {xs : List V} (hq : H q = some (.tup xs)) : q ≠ p := by
  obtain ⟨cells, a, d, k, f, e1, e2, h4⟩ := h
  exact ne_of hq e1 (by intro z; cases z)
end
theorem upd_self {H : Hp} {p : Addr} {o : HO} (h : H p = some o) : upd H p o = H := by
  funext b
  unfold upd
  split
  · rename_i e
    rw [e, h]
  · rfl
def spPen (K : PySem.W.Frag) : Sp := fun vs H Q _ => ∃ (a : Addr) (ns : List Int), vs = [.ref a] ∧ SqL K H a (ns.map V.int) ∧ ∀ p c H', H p = none → H c = none → Same H H' → PenAt H' p c 0 → Q (.ref p) H'
def spDraw : Sp := fun vs H Q _ => ∃ (p c : Addr) (m : Int) (n : Nat), vs = [.ref p, .int m] ∧ PenAt H p c n ∧ n < 1000000000 ∧ 1 ≤ m ∧ m < 2 ^ 64 ∧
  ∀ r H', 0 ≤ r → r < m → Kp p H H' → PenAt H' p c (n + 1) → Q (.int r) H'
/-- what may be picked from: n items, f i the i-th -/
inductive Pk (K : PySem.W.Frag) (H : Hp) : V → Nat → (Nat → V) → Prop
  | lst {l : Addr} {xs : List V} (h : SqL K H l xs) : Pk K H (.ref l) xs.length (fun i => xs.getD i .non)
  | tup {l : Addr} {xs : List V} (h : SqT K H l xs) : Pk K H (.ref l) xs.length (fun i => xs.getD i .non)
  | str {z : Str} (h : z.length ≤ sizeLine) : Pk K H (.str z) z.length (fun i => .str ⟨#[z.cps.toList.getD i 0]⟩)
theorem Kp.seqT {K : PySem.W.Frag} {p : Addr} {H H' : Hp} {a : Addr} {xs : List V} (e : Kp p H H') (n : a ≠ p) (h : SqT K H a xs) : SqT K H' a xs := by
  rcases h with (h | ⟨o, h⟩) | h
  · exact .inl (.inl (e _ _ n h))
  · exact .inl (.inr ⟨o, e _ _ n h⟩)
  · exact .inr h
theorem Pk.keep {K : PySem.W.Frag} {H H' : Hp} {p : Addr} {s : V} {n : Nat} {f : Nat → V} (h : Pk K H s n f) (hs : s ≠ .ref p) (e : Kp p H H') : Pk K H' s n f := by
  cases h with
  | lst h => exact .lst (e.seq (fun z => hs (by rw [z])) h)
  | tup h => exact .tup (e.seqT (fun z => hs (by rw [z])) h)
  | str h => exact .str h
theorem Pk.len {K : PySem.W.Frag} {H : Hp} {s : V} {n : Nat} {f : Nat → V} (h : Pk K H s n f) : LenV K s H n := by
  cases h with
  | lst h => exact .inl ⟨_, h, rfl⟩
  | tup h => exact .inr ⟨_, h, rfl⟩
  | str h => exact ⟨h, rfl⟩
theorem getD_some {α : Type} {xs : List α} {i : Nat} {d : α} (h : i < xs.length) : xs[i]? = some (xs.getD i d) := by
  rw [List.getD_eq_getElem?_getD, List.getElem?_eq_getElem h]
  rfl
theorem Pk.item {K : PySem.W.Frag} {H : Hp} {s : V} {n : Nat} {f : Nat → V} {i : Nat} {a : Int} {Q : VK} (h : Pk K H s n f) (hi : i < n) (ea : a = (i : Int)) (q : Q (f i) H) : rIx K s (.int a) H Q := by
  cases h with
  | @lst l xs h => exact .inl ⟨l, xs, a, _, rfl, rfl, h, atI_of ea (getD_some hi), q⟩
  | @tup l xs h => exact .inr (.inl ⟨l, xs, a, _, rfl, rfl, h, atI_of ea (getD_some hi), q⟩)
  | @str z h =>
    have hi2 : i < z.cps.toList.length := by rw [Array.length_toList]; exact hi
    refine .inr (.inr ⟨z, a, z.cps.toList.getD i 0, rfl, rfl, h, ?_, q⟩)
    subst ea
    exact atI_nat (getD_some hi2)
def spPick (K : PySem.W.Frag) : Sp := fun vs H Q _ => ∃ (p c : Addr) (s : V) (m n : Nat) (f : Nat → V), vs = [.ref p, s] ∧ PenAt H p c n ∧ n < 1000000000 ∧ s ≠ .ref p ∧ Pk K H s m f ∧ 1 ≤ m ∧ m < 2 ^ 62 ∧
  ∀ i H', i < m → Kp p H H' → PenAt H' p c (n + 1) → Q (f i) H'
/-- a list made turn by turn over a range, by draws -/
theorem lc_pen {lo : Int} {n c d j : Nat} {te : TE} {vs : List Nat} {σ : L2.St} {H1 : Hp} {D p a : Addr} {Qd : Hp → Prop} (C : V → Prop) (hn : n ≤ 100000) (hD : H1 D = none) (hP : PenAt H1 p a c)
    (hw : ∀ x, wipe ((wipe σ vs).set j (some x)) vs = wipe σ vs)
    (he : ∀ i H, i < n → Kp p H1 H → PenAt H p a (c + d * i) → ∀ Qe : VK, (∀ y H4, C y → Kp p H H4 → PenAt H4 p a (c + d * (i + 1)) → Qe y H4) → te ((wipe σ vs).set j (some (.int (lo + i)))) H Qe)
    (hd : ∀ H acc, Kp p H1 H → PenAt H p a (c + d * n) → H D = some (.lst acc) → acc.length = n → (∀ y ∈ acc, C y) → Qd H) :
    ∃ W : Nat → Nat → Hp → Prop, (∃ m, W 0 m (upd H1 D (.lst []))) ∧ ∀ i m H, W i m H →
      ((Itr lo n).stop i H ∧ Qd H) ∨ ((Itr lo n).go i H ∧ ∃ Nx : Hp → Prop, (∀ H', Nx H' → ∃ m', m' < m ∧ W (i + 1) m' H') ∧ ∀ x H', (Itr lo n).yld i H x H' → gName j x (wipe σ vs) H' fun σ2 H2 => wipe σ2 vs = wipe σ vs ∧ tYes σ2 H2 fun b H3 =>
        if b = true then te σ2 H3 fun y H4 => ∃ acc, H4 D = some (.lst acc) ∧ acc.length < sizeLine ∧ Nx (upd H4 D (.lst (acc ++ [y]))) else Nx H3) := by
  obtain ⟨ne1, ne2⟩ := hP.ne hD
  refine lc_range (lo := lo) (n := n) (fun i H => Kp p H1 H ∧ PenAt H p a (c + d * i) ∧ ∃ acc, H D = some (.lst acc) ∧ acc.length = i ∧ ∀ y ∈ acc, C y) ⟨Kp.new hD, hP.upd ne1 ne2, [], upd_same, rfl, fun _ h => nomatch h⟩ (fun i H hi ⟨k1, k2, acc, k3, k4, k5⟩ => ?_) (fun H ⟨k1, k2, acc, k3, k4, k5⟩ => hd H acc k1 k2 k3 k4 k5)
  refine ⟨hw _, ?_⟩
  refine g_yes ?_
  refine g_if1 ?_
  refine he i H hi k1 k2 _ fun y H4 cy kp pn => ⟨acc, kp _ _ ne1 k3, Nat.lt_of_le_of_lt (show acc.length ≤ 100000 by omega) (by decide), ?_, pn.upd ne1 ne2, acc ++ [y], upd_same, by rw [List.length_append, k4]; rfl, ?_⟩
  · intro b o nb e
    rw [upd_ne (ne_of_none e hD)]
    exact kp _ _ nb (k1 _ _ nb e)
  · intro z hz
    rcases List.mem_append.mp hz with hz | hz
    · exact k5 z hz
    · rw [List.mem_singleton.mp hz]
      exact cy
theorem pen_merge {c : Addr} {f : Int} : mergeK [] [(ks "cells", .ref c), (ks "at", .int 0), (ks "digits", .int 0), (ks "count", .int 0), (ks "fold", .int f)] = penK c 0 0 0 f := by
  simp [mergeK, putK, penK, kne1, kne2, kne3, kne4, kne5, kne6, kne7, kne8, kne9, kne10]
/-- .. with a test that may draw -/
theorem lc_penT {lo : Int} {n c d j : Nat} {tt : TT} {te : TE} {vs : List Nat} {σ : L2.St} {H1 : Hp} {D p a : Addr} {Qd : Hp → Prop} (C : V → Prop) (hn : n ≤ 100000) (hD : H1 D = none) (hP : PenAt H1 p a c)
    (hw : ∀ x, wipe ((wipe σ vs).set j (some x)) vs = wipe σ vs)
    (ht : ∀ i H, i < n → Kp p H1 H → PenAt H p a (c + d * i) → ∀ Qt : Bool → Hp → Prop, (∀ b H4, Kp p H H4 → PenAt H4 p a (c + d * (i + 1)) → Qt b H4) → tt ((wipe σ vs).set j (some (.int (lo + i)))) H Qt)
    (he : ∀ i H, i < n → Kp p H1 H → PenAt H p a (c + d * (i + 1)) → ∀ Qe : VK, (∀ y H4, C y → Kp p H H4 → PenAt H4 p a (c + d * (i + 1)) → Qe y H4) → te ((wipe σ vs).set j (some (.int (lo + i)))) H Qe)
    (hd : ∀ H acc, Kp p H1 H → PenAt H p a (c + d * n) → H D = some (.lst acc) → acc.length ≤ n → (∀ y ∈ acc, C y) → Qd H) :
    ∃ W : Nat → Nat → Hp → Prop, (∃ m, W 0 m (upd H1 D (.lst []))) ∧ ∀ i m H, W i m H →
      ((Itr lo n).stop i H ∧ Qd H) ∨ ((Itr lo n).go i H ∧ ∃ Nx : Hp → Prop, (∀ H', Nx H' → ∃ m', m' < m ∧ W (i + 1) m' H') ∧ ∀ x H', (Itr lo n).yld i H x H' → gName j x (wipe σ vs) H' fun σ2 H2 => wipe σ2 vs = wipe σ vs ∧ tt σ2 H2 fun b H3 =>
        if b = true then te σ2 H3 fun y H4 => ∃ acc, H4 D = some (.lst acc) ∧ acc.length < sizeLine ∧ Nx (upd H4 D (.lst (acc ++ [y]))) else Nx H3) := by
  obtain ⟨ne1, ne2⟩ := hP.ne hD
  refine lc_range (lo := lo) (n := n) (fun i H => Kp p H1 H ∧ PenAt H p a (c + d * i) ∧ ∃ acc, H D = some (.lst acc) ∧ acc.length ≤ i ∧ ∀ y ∈ acc, C y) ⟨Kp.new hD, hP.upd ne1 ne2, [], upd_same, Nat.le_refl _, fun _ h => nomatch h⟩ (fun i H hi ⟨k1, k2, acc, k3, k4, k5⟩ => ?_) (fun H ⟨k1, k2, acc, k3, k4, k5⟩ => hd H acc k1 k2 k3 k4 k5)
  refine ⟨hw _, ?_⟩
  refine ht i H hi k1 k2 _ fun b H3 kp3 pn3 => ?_
  cases b with
  | false =>
    refine g_if0 ?_
    exact ⟨k1.trans kp3, pn3, acc, kp3 _ _ ne1 k3, by omega, k5⟩
  | true =>
    refine g_if1 ?_
    refine he i H3 hi (k1.trans kp3) pn3 _ fun y H4 cy kp pn => ⟨acc, kp _ _ ne1 (kp3 _ _ ne1 k3), Nat.lt_of_le_of_lt (show acc.length ≤ 100000 by omega) (by decide), ?_, pn.upd ne1 ne2, acc ++ [y], upd_same, by rw [List.length_append, List.length_singleton]; omega, ?_⟩
    · intro b o nb e
      rw [upd_ne (ne_of_none e hD)]
      exact kp _ _ nb (kp3 _ _ nb (k1 _ _ nb e))
    · intro z hz
      rcases List.mem_append.mp hz with hz | hz
      · exact k5 z hz
      · rw [List.mem_singleton.mp hz]
        exact cy
end Pre

/-! ### an own exception class whose __init__ begins with super().__init__(..) -/
namespace Up
open PySem PySem.W L2 PyProof.Rows
abbrev upEnv (qual : Str) (scope : Scope) (L f : Addr) (cdv : Value) (cc : Addr) : Env := envX qual scope L f cdv [("__class__", cc)]
abbrev upFn (name qual : Str) (params : Arguments) (body : List Stmt) (scope : Scope) (kV doc pm : Value) (an : Option Addr) (cdv ct : Value) (cc : Addr) : FuncData := fnX name qual params body scope [("__class__", cc)] .none kV doc pm an cdv ct
structure UpScope (N ps : List Str) (sc : Scope) : Prop where
  kind : sc.kind = .function
  co : sc.isCoroutine = false
  gen : sc.isGenerator = false
  nd : N.Nodup
  pre : N.take ps.length = ps
  par : ∀ x ∈ ps, sc.names.lookup x = some .local
  nocell : ∀ y ∈ sc.names, y.2 ≠ .cell
  fr : ∀ y ∈ sc.names, y.2 = .free → y.1 = ("__class__" : Str)
  sup : sc.names.lookup ("super" : Str) = some .globalImplicit
  cls : sc.names.lookup ("__class__" : Str) = some .free
/-- the context of such a body: nothing leaves it -/
def cxS (P : Program) (w : World) (K : Frag) (mg : Str → Option Value) (base : Heap) (N : List Str) (qual : Str) (scope : Scope) (f : Addr) (cd : Value) (cc : Addr) (A : Around) (outer : List Env) (s : Shared) (H : Hp) : Cx where
  prog := P
  w := w
  K := K
  mg := mg
  base := base
  A := A.deeper (upEnv qual scope s.heap.objs.size f cd cc)
  N := N
  s_0 := s
  H_0 := H
  env := upEnv qual scope s.heap.objs.size f cd cc
  outer := outer
  stack := upEnv qual scope s.heap.objs.size f cd cc :: outer
  ex := []
  calm := true
  fn := fun _ => false
  pn := []
  xe := fun _ _ => False
theorem lookup_zip_rev {α : Type} : ∀ {ps : List Str} {us : List α} {i : Nat} {y : Str} {u : α}, ps.Nodup → ps[i]? = some y → us[i]? = some u → (ps.zip us).reverse.lookup y = some u
  | [], _, _, _, _, _, h, _ => by simp at h
  | _ :: _, [], _, _, _, _, _, h => by simp at h
  | p :: ps, w :: us, 0, y, u, nd, h1, h2 => by
    simp only [List.getElem?_cons_zero, Option.some.injEq] at h1 h2
    subst h1
    subst h2
    rw [List.zip_cons_cons, List.reverse_cons, List.lookup_append]
    have none : (ps.zip us).reverse.lookup p = none := by
      rw [List.lookup_eq_none_iff]
      intro q hq
      have hm := List.mem_reverse.mp hq
      have := (List.of_mem_zip (a := q.1) (b := q.2) hm).1
      exact bne_iff_ne.mpr fun e => (List.nodup_cons.mp nd).1 (by rw [e]; exact this)
    rw [none]
    simp [List.lookup]
  | p :: ps, w :: us, i + 1, y, u, nd, h1, h2 => by
    rw [List.zip_cons_cons, List.reverse_cons, List.lookup_append, lookup_zip_rev (i := i) (List.nodup_cons.mp nd).2 (by simpa using h1) (by simpa using h2)]
    rfl
section
variable {P : Program} {w : World} {K : Frag} {mg : Str → Option Value} {base : Heap} {N ps : List Str} {name qual : Str} {params : Arguments} {scope : Scope} {f cc : Addr} {A : Around} {outer : List Env} {s : Shared} {H : Hp}
theorem inv_up {cdv : Value} {us : List Value} {vs : List V} {h1 : Heap} {tk : Nat} (S : UpScope N ps scope) (hd : A.handled = none) (e0 : Env0 P w K mg base A outer s H) (hl : vs.length = ps.length) (r : Vals vs us)
    (hcc : ∃ cl cld v csl, K.lookup cc = some ⟨cl, cld, .cell v, csl⟩) (hns : h1.Ns s.heap.objs.size fun x => (ps.zip us).reverse.lookup x) (hk : ∀ b o, s.heap.get? b = some o → h1.get? b = some o) :
    Inv (cxS P w K mg base N qual scope f cdv cc A outer s H) [] (L2.start N vs) H { s with heap := h1, toks := tk } := by
  have hpl : ps.length ≤ N.length := by have := congrArg List.length S.pre; rw [List.length_take] at this; omega
  have noA : ∀ b : Addr, b ∉ (cxS P w K mg base N qual scope f cdv cc A outer s H).ex := fun b z => absurd (show b ∈ ([] : List Addr) from z) (by simp)
  obtain ⟨cl, cld, cv, csl, hcc⟩ := hcc
  have hb := e0.mod.kin _ _ hcc
  have cells : ∀ {y : Str} {c : Addr}, ([(("__class__" : Str), cc)] : List (Str × Addr)).lookup y = some c → y = "__class__" ∧ c = cc := fun {y c} h => by
    simp only [List.lookup] at h
    split at h
    · rename_i e
      exact ⟨eq_of_beq e, (Option.some.inj h).symm⟩
    · cases h
  refine ⟨⟨e0.mod, S.kind, rfl, rfl, Nat.le_refl _, fun y z c q1 q2 => ?_, fun y hy => ?_, fun y c q => ?_, fun _ => hd, Around.frames_deeper e0.frames, .inr ⟨rfl, rfl⟩, fun b z => absurd z (noA b), e0.bs, e0.bsz, fun b _ _ => noA b, fun b z => absurd z (noA b), e0.funs, e0.frf⟩,
    rfl, e0.bare, Un.kept hk, ⟨_, hns, fun i y v q1 q2 q3 => ?_⟩, fun y c q => ?_, e0.hok.fresh (Nat.le_refl _), fun y c q => ?_, fun p hp => absurd (show p ∈ ([] : List (Addr × Obj)) from hp) (by simp), e0.hok.kept hk, ?_⟩
  · rw [(cells q1).1, (cells q2).1]
  · have hy : scope.names.lookup y = some .cell ∨ scope.names.lookup y = some .free := hy
    rcases hy with hy | hy
    · exact absurd rfl (S.nocell _ (PySem.mem_of_lookup hy))
    · have e := S.fr _ (PySem.mem_of_lookup hy) rfl
      have e : y = "__class__" := e
      subst e
      exact ⟨cc, by show ([(("__class__" : Str), cc)] : List (Str × Addr)).lookup ("__class__" : Str) = some cc; simp [List.lookup]⟩
  · cases q
  · have hi : i < vs.length := by
      unfold L2.start at q2
      by_cases hi : i < vs.length
      · exact hi
      · rw [List.getElem?_append_right (by simpa using hi)] at q2
        rw [List.getElem?_replicate] at q2
        split at q2 <;> cases q2
    have ha : vs[i]? = some v := by
      unfold L2.start at q2
      rw [List.getElem?_append_left (by simpa using hi), List.getElem?_map] at q2
      cases e : vs[i]? with
      | none => rw [e] at q2; cases q2
      | some a => rw [e] at q2; cases q2; rfl
    obtain ⟨u, hu, rv⟩ := r.get ha
    have hp : ps[i]? = some y := by
      rw [← S.pre, List.getElem?_take_of_lt (by omega)]; exact q1
    have ndP : ps.Nodup := by rw [← S.pre]; exact S.nd.sublist (List.take_sublist _ _)
    exact ⟨u, rv, .inl ⟨S.par y (List.mem_of_getElem? hp), lookup_zip_rev ndP hp hu⟩⟩
  · rw [(cells q).2]
    exact ⟨cv, _, hk _ _ (e0.bs _ _ hb).1, rfl⟩
  · rw [(cells q).2]
    exact (e0.bs _ _ hb).2
  · unfold L2.start
    show _ = N.length
    rw [List.length_append, List.length_map, List.length_replicate]
    omega
end
/-- what the written part says of a class C over ValueError whose __init__ names super() -/
structure UpC (P : Program) (K : Frag) (mg : Str → Option Value) (C cc : Addr) (cdv : Value) : Prop where
  oex : OexC K C
  cell : ∃ cl cld csl, K.lookup cc = some ⟨cl, cld, .cell (some (.ref C)), csl⟩
  code : ∃ cda ccl cdd vs ccs file tf, cdv = .ref cda ∧ K.lookup cda = some ⟨ccl, cdd, .fields vs, ccs⟩ ∧ vs[2]? = some (.str file tf) ∧ ((P.main.file : Str) == file) = true
  any : nsIn K cStatics "thirdparty.any" = some none
  sup : mg "super" = none
  top : (P.main.scope.names.lookup ("super" : Str)).isSome = false
  init : ks_superIn K C C "__init__" = some (some (.builtin "ValueError.__init__"))
  sub : subIn K (.ref C) (.type "ValueError") = some true
  self : mroIn K C (.ref C) = some true
section
variable {P : Program} {w : World} {K : Frag} {mg : Str → Option Value} {base : Heap} {N : List Str} {name qual : Str} {params : Arguments} {scope : Scope} {f cc C a : Addr} {cdv : Value} {A : Around} {outer : List Env} {s s1 : Shared} {H H1 : Hp}
  {body : List Stmt} {p0 p1 p2 p3 p4 : Pos} {es : List Expr} {ta : TA} {σ : L2.St} {D : Ends} {kV doc pm ct oc : Value} {an od : Option Addr} {osl : Array (Option Value)} {ar : Arg} {ps : List Str}
/-- super() itself -/
theorem super_base (T : UpC P K mg C cc cdv) (S : UpScope N ps scope) (lk : K.lookup f = some ⟨oc, od, .func (upFn name qual params body scope kV doc pm an cdv ct cc), osl⟩) (hp : (params.posonlyargs ++ params.args).head? = some ar) (h0 : N[0]? = some ar.arg) (hps : ps[0]? = some ar.arg)
    (I : Inv (cxS P w K mg base N qual scope f cdv cc A outer s H) [] σ H1 s1) (hσ : σ[0]? = some (some (.ref a))) (ea : H1 a = some (exo a C none)) {whole : Sem Value} {Q : Value → Shared → Prop} {E : Value → Shared → Prop}
    (h : ∀ so h', h'.get? so = some (ks_superObj C a C) → so = s1.heap.objs.size → (∀ y o, s1.heap.get? y = some o → h'.get? y = some o) → Q (.ref so) { s1 with heap := h' }) :
    _root_.PySem.wpAt (model P w) (A.deeper (upEnv qual scope s.heap.objs.size f cdv cc)) (.func body (upEnv qual scope s.heap.objs.size f cdv cc)) (attributeBase (.Call (.Name "super" p0) [] [] p1) "__init__" (upEnv qual scope s.heap.objs.size f cdv cc) whole) Q E s1 := by
  have X : K.In s1.heap := I.kIn
  obtain ⟨cda, ccl, cdd, vs, ccs, file, tf, rfl, hcode, hvs, hfile⟩ := T.code
  obtain ⟨cl, cld, csl, hcell⟩ := T.cell
  obtain ⟨nm, q, NN, bs, bm, sn, sub, ab, col, dd, k0, k1, k2, k3, k5, hC, hbm⟩ := T.oex.cls
  obtain ⟨t1, ho⟩ := exo_at I.hok ea
  obtain ⟨m, hns, hl⟩ := I.loc
  obtain ⟨u, ru, look⟩ := hl 0 ar.arg (.ref a) h0 hσ (.inl (S.par _ (List.mem_of_getElem? hps)))
  obtain rfl : u = Value.ref a := ru
  have hm : m ar.arg = some (.ref a) := by
    rcases look with ⟨_, z⟩ | ⟨k, _⟩
    · exact z
    · have z := S.par _ (List.mem_of_getElem? hps)
      have k : scope.names.lookup ar.arg = some .cell ∨ scope.names.lookup ar.arg = some .free := k
      rw [z] at k
      rcases k with k | k <;> cases k
  obtain ⟨mb, hb1, hb2⟩ := I.mod.blt
  obtain ⟨hp1, g, d, t, os⟩ := s1
  have hC' := X _ _ hC
  refine ks_wpAt_super_base (env := upEnv qual scope s.heap.objs.size f (.ref cda) cc) S.sup S.cls (by decide) rfl (X _ _ lk) rfl hp rfl (X _ _ hcode) rfl hvs hfile T.top ?_
  refine ks_loadName_global S.kind S.sup (Calls.loadGlobal_builtin (env := upEnv qual scope s.heap.objs.size f (.ref cda) cc) (I.mod.glob.keeps I.bk) T.sup (hb1.keeps I.bk) ((hb2 _ (by decide +kernel)).trans (by decide +kernel)) ⟨rfl, ?_⟩)
  refine wpAny_loadName_free S.kind S.cls (by show ([(("__class__" : Str), cc)] : List (Str × Addr)).lookup ("__class__" : Str) = some cc; simp [List.lookup]) ⟨_, X _ _ hcell, rfl⟩ ?_
  refine wpAny_loadName_local S.kind (S.par _ (List.mem_of_getElem? hps)) hns hm ?_
  refine ks_wpAny_isType_cls hC' rfl ⟨rfl, ?_⟩
  refine ks_wpAny_call_super hC' rfl ho rfl (fun c e => by cases e) (looks_mroIn X T.self) (fun h' e k => ?_)
  exact h _ h' e rfl k
/-- the bound ValueError.__init__, called -/
theorem mw_call {X : Cx} {pins : List (Addr × Obj)} {u : Addr} {rest : List Value} {A : Around} {Q : Value → Shared → Prop} {E : Value → Shared → Prop} (T : OexC X.K C) (I : Inv X pins σ H s) (hu : s.heap.get? u = some (kxs_mw "ValueError.__init__" a)) (ea : H a = some (exo a C none)) (hz : rest.length ≤ sizeLine)
    (h : ∀ s', Inv X pins σ H s' → Q .none s') : wpAny (model X.prog X.w) A (call (.ref u) rest) Q E s := by
  obtain ⟨nm, q, NN, bs, bm, sn, sub, ab, col, dd, k0, k1, k2, k3, k5, hC, hbm⟩ := T.cls
  have hC' := I.kIn _ _ hC
  obtain ⟨t1, ho⟩ := exo_at I.hok ea
  have fin : ∀ h', (∀ b o, b ≠ a → s.heap.get? b = some o → h'.get? b = some o) → h'.get? a = some (excObj C s.heap.objs.size none .none) → Q .none { s with heap := h' } := fun h' k e' => by
    have J := I.write (t' := s.toks) (x := a) (e := a) (o := exo a C none) (by rw [ea]; exact True.intro) (.inl rfl) k ⟨_, e'⟩ (exo_ok e')
    have eu : upd H a (exo a C none) = H := by
      funext b
      by_cases hb : b = a
      · rw [hb, upd_same, ea]
      · rw [upd_ne hb]
    rw [eu] at J
    exact h _ J
  obtain ⟨hh, g, d, tk, os⟩ := s
  refine wpAny_call (codeAny_of_tree ?_)
  show wpAny _ A.in1 (callAny (.ref u) ⟨rest, []⟩) _ _ _
  simp only [callAny]
  refine wpAny_bind (wpAny_load hu ?_)
  simp only [kxs_mw, show (Value.type "method-wrapper" == Value.type "method" || Value.type "method-wrapper" == Value.type "builtin_function_or_method" || Value.type "method-wrapper" == Value.type "method-wrapper") = true by decide, if_true]
  refine KFB.if_so (by decide) ?_
  refine wpAny_bind (check_bound_init F.excBase_ValueError.toExcCallFacts hC' ho rfl ?_)
  refine wpAny_bind (wpAny_pure (wpAny_pure ?_))
  refine ⟨plainId_quiet F.excBase_ValueError.init.plain _, codeAny_builtin F.excBase_ValueError.initEntry ?_⟩
  exact exc_init_tree (cls := .ref C) (t0 := t1) (dv := none) (c2 := .none) (c3 := .none) (b4 := .bool false) ho hz (fun h' k e' _ => fin h' k e')
/-- super().__init__(e, ..) -/
theorem super_stmt {e : Expr} {pl : Sem Bool} (T : UpC P K mg C cc cdv) (S : UpScope N ps scope) (lk : K.lookup f = some ⟨oc, od, .func (upFn name qual params body scope kV doc pm an cdv ct cc), osl⟩) (hp : (params.posonlyargs ++ params.args).head? = some ar) (h0 : N[0]? = some ar.arg) (hps : ps[0]? = some ar.arg)
    (I : Inv (cxS P w K mg base N qual scope f cdv cc A outer s H) [] σ H1 s1) (hσ : σ[0]? = some (some (.ref a))) (ea : H1 a = some (exo a C none))
    (ha : PA (cxS P w K mg base N qual scope f cdv cc A outer s H) (e :: es) ta) (h : ta σ H1 fun vs H2 => vs.length ≤ 1000 ∧ H2 a = some (exo a C none) ∧ D.nx σ H2)
    (hc : eval (.Call (.Attribute (.Call (.Name "super" p0) [] [] p1) "__init__" p2) (e :: es) [] p3) (upEnv qual scope s.heap.objs.size f cdv cc) = (do
      let ov ← attributeBase (.Call (.Name "super" p0) [] [] p1) "__init__" (upEnv qual scope s.heap.objs.size f cdv cc) (eval (.Call (.Name "super" p0) [] [] p1) (upEnv qual scope s.heap.objs.size f cdv cc))
      standAt p2.atName
      let (fx, first) ← holding [ov] (getMethod ov "__init__" pl)
      callWith p3 fx first (backTo p3 (starEach (e :: es) (upEnv qual scope s.heap.objs.size f cdv cc))) []) := by rfl)
    (he : starEach (e :: es) (upEnv qual scope s.heap.objs.size f cdv cc) = (false, eval e (upEnv qual scope s.heap.objs.size f cdv cc)) :: starEach es (upEnv qual scope s.heap.objs.size f cdv cc) := by rfl) (hpl : (backTo p3 (starEach es (upEnv qual scope s.heap.objs.size f cdv cc))).any (·.1) = false := by rfl)
    (hi : interactive (upEnv qual scope s.heap.objs.size f cdv cc) = false) (hs : swapsWith (.Call (.Attribute (.Call (.Name "super" p0) [] [] p1) "__init__" p2) (e :: es) [] p3) none p4.line (upEnv qual scope s.heap.objs.size f cdv cc) = pure false := by rfl) :
    _root_.PySem.wpAt (model P w) (A.deeper (upEnv qual scope s.heap.objs.size f cdv cc)) (.func body (upEnv qual scope s.heap.objs.size f cdv cc)) (exec (.Expr (.Call (.Attribute (.Call (.Name "super" p0) [] [] p1) "__init__" p2) (e :: es) [] p3) p4) (upEnv qual scope s.heap.objs.size f cdv cc))
      (SP (cxS P w K mg base N qual scope f cdv cc A outer s H) [] D) (fun _ _ => False) s1 := by
  refine ks_wpAt_Expr_any (ks_wpAt_MethodCall (pl := pl) (super_base T S lk hp h0 hps I hσ ea (fun so h' hso eso k => ?_)) hc) hi hs
  have I2 : Inv (cxS P w K mg base N qual scope f cdv cc A outer s H) [] σ H1 { s1 with heap := h' } := I.kept (t' := s1.toks) k
  have X : K.In h' := I2.kIn
  obtain ⟨nm, q, NN, bs, bm, sn, sub, ab, col, dd, k0, k1, k2, k3, k5, hC, hbm⟩ := T.oex.cls
  have hcl : ∃ cd, clsIn K C = some cd := by unfold clsIn; rw [hC]; exact ⟨_, rfl⟩
  obtain ⟨cd, hcl⟩ := hcl
  obtain ⟨t1, ho⟩ := exo_at I2.hok ea
  have IA : InstAt h' a (excObj C t1 none .none) C none := ⟨ho, rfl, rfl, trivial⟩
  have hf := T.init
  unfold ks_superIn at hf
  rw [hcl] at hf
  have hI : Looks (model P w) h' (isInstance (.ref a) (.type "ValueError")) true := IA.type.andThen (looks_subIn X T.sub)
  obtain ⟨hp1, g, d, t, os⟩ := s1
  refine kxs_getMethod kxs_ValueError hso (looks_opaque X T.any) (l₀ := cd.mro) (fun A Q E s k q => wpAny_bind ((looks_clsIn X hcl) A _ E s k (wpAny_pure q))) rfl X hf hI (ks_ne X IA hcl) (by decide) ?_
  have I3 := I2.kept (h' := h'.push (kxs_mw "ValueError.__init__" a)) (t' := t + 1) (fun b o e => Heap.get?_push_of_some _ e)
  have hget : (h'.push (kxs_mw "ValueError.__init__" a)).get? h'.objs.size = some (kxs_mw "ValueError.__init__" a) := Heap.get?_push_at rfl rfl
  have I4 : Inv (cxS P w K mg base N qual scope f cdv cc A outer s H) [(h'.objs.size, kxs_mw "ValueError.__init__" a)] σ H1 ⟨h'.push (kxs_mw "ValueError.__init__" a), g, d, t + 1, os⟩ := I3.pins_of fun p hp => by
    obtain rfl : p = (h'.objs.size, kxs_mw "ValueError.__init__" a) := by simpa using hp
    exact ⟨hget, I2.hok.fresh (Nat.le_refl _), Nat.ne_of_gt I2.lt, I2.nofs (Nat.le_refl _), fun v z => by cases z⟩
  rw [he]
  refine kxs_callWith (i := "ValueError.__init__") (x := a) (by show (false || (backTo p3 (starEach es (upEnv qual scope s.heap.objs.size f cdv cc))).any (·.1)) = false; rw [hpl]; rfl) (Calls.evalArgs_plain ?_)
  have run := ha.run p3 [(h'.objs.size, kxs_mw "ValueError.__init__" a)] _ σ H1 _ I4 h
  rw [show starEach (e :: es) (cxS P w K mg base N qual scope f cdv cc A outer s H).env = (false, eval e (upEnv qual scope s.heap.objs.size f cdv cc)) :: starEach es (upEnv qual scope s.heap.objs.size f cdv cc) from he] at run
  refine thn run fun us s3 ⟨vs, H2, I5, r, hz, ea2, hD⟩ => ?_
  have hu := (I5.pin (h'.objs.size, kxs_mw "ValueError.__init__" a) (by simp)).1
  refine ⟨hu, ?_⟩
  refine mw_call T.oex I5 hu ea2 (by show us.length ≤ sizeLine; rw [← Paired.length r, sizeLine_eq]; omega) fun s' J => ?_
  exact ⟨σ, H2, J.pins_of fun p hp => absurd hp (by simp), hD⟩
end
section
variable {P : Program} {w : World} {K : Frag} {mg : Str → Option Value} {base : Heap} {N ps : List Str} {name qual : Str} {params : Arguments} {scope : Scope} {f cc C : Addr} {cdv kV doc pm ct oc : Value} {an od : Option Addr} {osl : Array (Option Value)} {ar : Arg}
  {rest : List Stmt} {p0 p1 p2 p3 p4 : Pos} {e : Expr} {es : List Expr} {k : Nat} {sp : Sp}
/-- the __init__ of an own exception class: super().__init__(e, ..), then rest -/
theorem fn_up {pl : Sem Bool} (T : UpC P K mg C cc cdv) (S : UpScope N ps scope)
    (lk : K.lookup f = some ⟨oc, od, .func (upFn name qual params (.Expr (.Call (.Attribute (.Call (.Name "super" p0) [] [] p1) "__init__" p2) (e :: es) [] p3) p4 :: rest) scope kV doc pm an cdv ct cc), osl⟩)
    (hcd : codeIn K cdv qual = true) (hp : (params.posonlyargs ++ params.args).head? = some ar) (h0 : N[0]? = some ar.arg) (hps : ps[0]? = some ar.arg) (len : ∀ vs H Q E, sp vs H Q E → vs.length = ps.length)
    (hc : ∀ env : Env, eval (.Call (.Attribute (.Call (.Name "super" p0) [] [] p1) "__init__" p2) (e :: es) [] p3) env = (do
      let ov ← attributeBase (.Call (.Name "super" p0) [] [] p1) "__init__" env (eval (.Call (.Name "super" p0) [] [] p1) env)
      standAt p2.atName
      let (fx, first) ← holding [ov] (getMethod ov "__init__" pl)
      callWith p3 fx first (backTo p3 (starEach (e :: es) env)) []))
    (he : ∀ env : Env, starEach (e :: es) env = (false, eval e env) :: starEach es env) (hpl : ∀ env : Env, (backTo p3 (starEach es env)).any (·.1) = false)
    (hi : ∀ env : Env, env.scope = scope → interactive env = false) (hs : ∀ env : Env, swapsWith (.Call (.Attribute (.Call (.Name "super" p0) [] [] p1) "__init__" p2) (e :: es) [] p3) none p4.line env = pure false)
    (hbody : ∀ (A : Around) (outer : List Env) (s : Shared) (H : Hp) (vs : List V) (Q : VK) (E : XK), sp vs H Q E → ∃ (ta : TA) (t : TS) (a : Addr), PA (cxS P w K mg base N qual scope f cdv cc A outer s H) (e :: es) ta ∧ PSs (cxS P w K mg base N qual scope f cdv cc A outer s H) rest t ∧
      (L2.start N vs)[0]? = some (some (.ref a)) ∧ H a = some (exo a C none) ∧
      ta (L2.start N vs) H fun us H2 => us.length ≤ 1000 ∧ H2 a = some (exo a C none) ∧ t { nx := fun _ H' => Q .non H', rt := Q } (L2.start N vs) H2) :
    FnOk P w K mg base CX0 (k + 1) f (upFn name qual params (.Expr (.Call (.Attribute (.Call (.Name "super" p0) [] [] p1) "__init__" p2) (e :: es) [] p3) p4 :: rest) scope kV doc pm an cdv ct cc) ps sp := by
  refine ⟨len, fun A outer s H args us vs Q E hr e0 hb r hsp => ?_⟩
  have hl := len _ _ _ _ hsp
  have KX : K.In s.heap := e0.mod.kin.keeps fun b o e => (e0.bs b o e).1
  have lim : s.heap.NoLimit := e0.mod.nolimit.keeps fun b o e => (e0.bs b o e).1
  refine ks_codeAny_call_defAt hr.depth (KX _ _ lk) rfl lim (codeRec_of KX hcd) rfl hb S.nocell (fun x hx => S.par _ (List.of_mem_zip hx).1) (fun h1 hns hk => ?_) S.co S.gen S.kind
  obtain ⟨ta, t, a, pa, pt, h0a, hea, hta⟩ := hbody A outer s H vs Q E hsp
  have I : Inv (cxS P w K mg base N qual scope f cdv cc A outer s H) [] (L2.start N vs) H { s with heap := h1, toks := s.toks + (ps.zip us).length } := by
    obtain ⟨cl, cld, csl, hcell⟩ := T.cell
    exact inv_up S hr.hd e0 hl r ⟨cl, cld, _, csl, hcell⟩ hns hk
  have fin : ∀ {σ' : L2.St} {H' : Hp} {v : V} {u : Value} {s' : Shared}, Inv (cxS P w K mg base N qual scope f cdv cc A outer s H) [] σ' H' s' → RelV v u → Q v H' → CE outer P w H s Q u s' :=
    fun {σ' H' v u s'} J rv q => ⟨v, H', J.os, J.bare, J.base, J.hok, rv, q⟩
  have ends : ∀ {fl : Flow} {s' : Shared}, SP (cxS P w K mg base N qual scope f cdv cc A outer s H) [] { nx := fun _ H' => Q .non H', rt := Q } fl s' → CR CX0 outer P w H s Q E (.ok (.ret (match fl with | .ret v => v | _ => .none))) s' := fun {fl s'} hs => by
    cases fl with
    | ret u =>
      obtain ⟨v, σ', H', J, rv, q⟩ := hs
      exact fin J rv q
    | next =>
      obtain ⟨σ', H', J, q⟩ := hs
      exact fin (v := V.non) (u := Value.none) J rfl q
    | brk =>
      obtain ⟨_, _, _, q⟩ := hs
      exact False.elim q
    | cont =>
      obtain ⟨_, _, _, q⟩ := hs
      exact False.elim q
  refine ks_wpAt_execs_cons (ks_wpAt_mono (super_stmt (D := { nx := fun σ H2 => t { nx := fun _ H' => Q .non H', rt := Q } σ H2, rt := Q }) (pl := pl) T S lk hp h0 hps I h0a hea pa hta (hc _) (he _) (hpl _) (hi _ rfl) (hs _)) (fun fl s' h' => ?_) fun _ _ z => z.elim)
  cases fl with
  | next =>
    obtain ⟨σ', H', J, q⟩ := h'
    refine _root_.PySem.wpAt_of_wpAny (wpAny_mono (pt.run [] s' σ' H' _ J q) (fun fl2 s2 h2 => ends h2) fun _ _ z => ?_)
    exact False.elim z
  | ret u =>
    obtain ⟨v, σ', H', J, rv, q⟩ := h'
    exact fin J rv q
  | brk =>
    obtain ⟨_, _, _, q⟩ := h'
    exact False.elim q
  | cont =>
    obtain ⟨_, _, _, q⟩ := h'
    exact False.elim q
end
/-! ### several except clauses, with names or without -/
/-- what the clauses wish of an exception of the body, one after the other; (c, some i, ts): except c as (slot i) -/
def wHds (K : Frag) (Wout : WX) (D : Ends) : List (Value × Option Nat × (Addr → Value → Option Addr → TS)) → WX
  | [] => Wout
  | (c, none, ts) :: r => fun cls d σ H => ∃ b, exmOne K cls c = some b ∧ (b = true → ∀ a, H a = none → ts a cls d D σ H) ∧ (b = false → wHds K Wout D r cls d σ H)
  | (c, some i, ts) :: r => fun cls d σ H => ∃ b, exmOne K cls c = some b ∧ (b = true → ∀ a, H a = none → ts a cls d { nx := fun σ' H' => D.nx (σ'.set i none) H', rt := D.rt, bk := fun σ' H' => D.bk (σ'.set i none) H', ct := fun σ' H' => D.ct (σ'.set i none) H' } (σ.set i (some (.ref a))) H) ∧ (b = false → wHds K Wout D r cls d σ H)
inductive Hds (X : Cx) : List ExceptHandler → List (Value × Option Nat × (Addr → Value → Option Addr → TS)) → Prop
  | nil : Hds X [] []
  | one {x : Str} {c : Value} {ts : Addr → Value → Option Addr → TS} {b₀ : Stmt} {suite : List Stmt} {np pos' : Pos} {hds : List ExceptHandler} {l : List (Value × Option Nat × (Addr → Value → Option Addr → TS))} (hc : Names X x c)
      (hsu : ∀ (a : Addr) (oe : Obj) (cls : Value) (d : Option Addr) (pn : List (Addr × Obj)), Zc cls d oe → (∃ vs, oe.data = .fields vs) → PSs (X.suite a ((a, oe) :: pn)) (b₀ :: suite) (ts a cls d)) (r : Hds X hds l) :
      Hds X (.ExceptHandler (some (.Name x np)) none (b₀ :: suite) pos' :: hds) ((c, none, ts) :: l)
  | as {x n : Str} {i : Nat} {c : Value} {ts : Addr → Value → Option Addr → TS} {b₀ : Stmt} {suite : List Stmt} {np pos' : Pos} {hds : List ExceptHandler} {l : List (Value × Option Nat × (Addr → Value → Option Addr → TS))} (hN : X.N.Nodup) (hi : X.N[i]? = some n) (hln : X.env.kindOf n = some .local) (hc : Names X x c)
      (hsu : ∀ (a : Addr) (oe : Obj) (cls : Value) (d : Option Addr) (pn : List (Addr × Obj)), Zc cls d oe → (∃ vs, oe.data = .fields vs) → PSs (X.suite a ((a, oe) :: pn)) (b₀ :: suite) (ts a cls d)) (r : Hds X hds l) :
      Hds X (.ExceptHandler (some (.Name x np)) (some n) (b₀ :: suite) pos' :: hds) ((c, some i, ts) :: l)
section
variable {X : Cx} {body : List Stmt} {h₀ : ExceptHandler} {hds : List ExceptHandler} {l : List (Value × Option Nat × (Addr → Value → Option Addr → TS))} {pos : Pos} {tb : WX → TS} {Wout : WX}
theorem ps_try_hds (hs : X.stack = X.env :: X.outer) (hf : X.env.frame = some X.env.locals) (tk : Takes X Wout)
    (hb : ∀ (W : WX) (pn : List (Addr × Obj)) (xe : Value → Shared → Prop), Takes (X.tr pn xe) W → PassesOwn (model X.prog X.w) X.A X.env xe → PSs (X.tr pn xe) body (tb W))
    (hh : Hds X (h₀ :: hds) l) : PS X (.Try body (h₀ :: hds) [] [] pos) (fun D σ H => tb (wHds X.K Wout D l) D σ H) := by
  refine ⟨fun pins s σ H D I h => ?_⟩
  have ok := I.ok
  have hfr : X.A.frames = some (X.env :: X.outer) := by rw [ok.frames, hs]
  refine wpAny_Try_except ?_
  refine wpAny_mono ((hb (wHds X.K Wout D l) (X.pn ++ pins) (fun e s₁ => wpAny (model X.prog X.w) X.A (noteFrame e X.env) (fun _ s₂ => wpAny (model X.prog X.w) X.A (setFlight e none) (fun _ s₃ =>
    wpAny (model X.prog X.w) X.A (handleBy e X.env (h₀ :: hds)) (SP X pins D) X.xe s₃) X.xe s₂) X.xe s₁) (fun u s' xx => ?_) PassesOwn.looking).run [] s σ H D (I.toTry _) h) (fun f s1 hsp => ?_) (fun e s1 he => he)
  · -- the catch
    obtain ⟨a, B, sI, pins', σ', H', cls, d, rfl, J', nb, up, sky, na, os, ag, w⟩ := xx
    have J : Inv X pins σ' H' sI := J'.ofTry ok
    have sky' : Sky B (X.env :: X.outer) a (Zc cls d) X.env.locals s'.heap := by rw [← hs]; exact sky
    show wpAny (model X.prog X.w) X.A (noteFrame (.ref a) X.env) _ _ _
    refine Sky.land Zc.steady hfr hf sky' fun h3 fl3 up3 => ?_
    have J3 : Inv X pins σ' H' { s' with heap := h3 } := J.landed nb fl3.1 (up.trans up3) os ag
    obtain ⟨oe3, vs3, he3, hz3, hd3⟩ := fl3.there
    have notFr : ∀ {h : Heap} {o : Obj} {vs : Array Value}, h.FunFrames B (X.env :: X.outer) → h.get? a = some o → o.data = .fields vs → a ∉ frs (X.env :: X.outer) := fun {h o vs} ff e dd hm => by
      obtain ⟨_, o', e', hnf⟩ := ff.mem hm
      rw [e] at e'; cases e'
      exact hnf _ dd
    have nfr := notFr fl3.2.2.1 he3 hd3
    have nL : a ≠ X.env.locals := fun z => nfr (List.mem_filterMap.mpr ⟨X.env, List.mem_cons_self, by rw [hf, z]⟩)
    have nF : a ∉ X.fs := fun hm => by
      obtain ⟨e, he, q⟩ := List.mem_filterMap.mp hm
      exact nfr (List.mem_filterMap.mpr ⟨e, List.mem_cons_of_mem _ he, q⟩)
    have S3 := J3.suite he3 hd3 na nL nF
    have test : ∀ {x : Str} {c : Value} {np : Pos} {Q : Value → Shared → Prop} {E : Value → Shared → Prop}, Names X x c → Q c { s' with heap := h3 } → wpAny (model X.prog X.w) (X.A.mark (some (.ref a))) (eval (.Name x np) X.env) Q E { s' with heap := h3 } := fun {x c np Q E} hc q => by
      obtain ⟨hg, hdbg, hm | ⟨hm, hv, hnn⟩⟩ := hc
      · exact ld_glob (X := X.suite a ((a, oe3) :: (X.pn ++ pins))) S3 hg hm q hdbg
      · exact ld_blt (X := X.suite a ((a, oe3) :: (X.pn ++ pins))) S3 hg hm hv q hnn hdbg
    have LT : Looks (model X.prog X.w) h3 (typeOf (.ref a)) cls := fun A Q E s k q => wpAny_typeOf_ref (k _ _ he3) (by rw [hz3.1]; exact q)
    have go : ∀ {hds' : List ExceptHandler} {l' : List (Value × Option Nat × (Addr → Value → Option Addr → TS))}, Hds X hds' l' → wHds X.K Wout D l' cls d σ' H' →
        wpAny (model X.prog X.w) X.A (handleBy (.ref a) X.env hds') (SP X pins D) X.xe { s' with heap := h3 } := by
      intro hds' l' hk
      induction hk with
      | nil =>
        intro w
        refine wpAny_handleBy_nil ?_
        obtain ⟨k1, k2, k3, oe, vs, T, oT, ts', he, hz, hd, h1, hr⟩ := id fl3
        unfold PySem.passOn
        refine wpAny_bind (wpAny_field he hd h1 ?_)
        rw [if_neg (show ¬ ((Value.ref T == Value.none) = true) from by simp)]
        have fin : wpAny (model X.prog X.w) X.A (setFlight (.ref a) X.env.frame) (fun _ s4 => wpAny (model X.prog X.w) X.A (throw (.ref a) : Sem Flow) (SP X pins D) X.xe s4) X.xe { s' with heap := h3 } := by
          rw [hf]
          refine HandSPX.setFlight_upZ fl3 fun h4 hh4 up4 => wpAny_throw (tk _ _ ?_)
          exact ⟨a, B, sI, pins, σ', H', cls, d, rfl, J, nb, (up.trans up3).trans up4, .inr (.inr (by rw [hs]; exact hh4)), na, os, ag, w⟩
        first
          | exact wpAny_bind (wpAny_pure (wpAny_bind fin))
          | exact wpAny_bind fin
      | @one x c ts b₀ suite np pos' hds2 l2 hc hsu r ih =>
        intro w
        obtain ⟨b, hb1, hyes, hno⟩ := w
        refine wpAny_handleBy_cons (codeAny_handlers_test ?_) (by intro q; cases q)
        have LM := exm_one (M := model X.prog X.w) (J3.kIn) LT hb1
        refine test hc (LM.here ?_)
        cases b with
        | true =>
          refine codeAny_handlers_suite ?_
          refine HandSPX.lands_againZ fl3 fun h4 fl4 up4 => ?_
          have J4 : Inv X pins σ' H' { s' with heap := h4 } := J.landed nb fl4.1 ((up.trans up3).trans up4) os ag
          obtain ⟨oe4, vs4, he4, hz4, hd4⟩ := fl4.there
          have S4 := J4.suite he4 hd4 na nL nF
          refine wpAny_mono ((hsu a oe4 cls d (X.pn ++ pins) hz4 ⟨_, hd4⟩).run [] _ _ H' _ S4 (hyes rfl a na)) (fun f s6 hsp => ?_) (fun _ _ z => False.elim z)
          cases f with
          | next =>
            obtain ⟨σ6, H6, S6, q6⟩ := hsp
            exact ⟨_, _, S6.unsuite ok, q6⟩
          | brk =>
            obtain ⟨σ6, H6, S6, q6⟩ := hsp
            exact ⟨_, _, S6.unsuite ok, q6⟩
          | cont =>
            obtain ⟨σ6, H6, S6, q6⟩ := hsp
            exact ⟨_, _, S6.unsuite ok, q6⟩
          | ret u =>
            obtain ⟨v6, σ6, H6, S6, r6, q6⟩ := hsp
            exact ⟨_, _, _, S6.unsuite ok, r6, q6⟩
        | false =>
          show wpAny _ X.A (handleBy (.ref a) X.env hds2) _ _ _
          exact ih (hno rfl)
      | @as x n i c ts b₀ suite np pos' hds2 l2 hN hi hln hc hsu r ih =>
        intro w
        have hloc : Loc X.env.scope n := .inl hln
        obtain ⟨b, hb1, hyes, hno⟩ := w
        refine wpAny_handleBy_cons (codeAny_handlers_test ?_) (by intro q; cases q)
        have LM := exm_one (M := model X.prog X.w) (J3.kIn) LT hb1
        refine test hc (LM.here ?_)
        cases b with
        | true =>
          refine codeAny_handlers_suite_as ?_
          refine HandSPX.lands_againZ fl3 fun h4 fl4 up4 => ?_
          have J4 : Inv X pins σ' H' { s' with heap := h4 } := J.landed nb fl4.1 ((up.trans up3).trans up4) os ag
          obtain ⟨oe4, vs4, he4, hz4, hd4⟩ := fl4.there
          have S4 := J4.suite he4 hd4 na nL nF
          refine store_ok (X := X.suite a ((a, oe4) :: (X.pn ++ pins))) (v := .ref a) S4 hN hi hloc rfl (fun s5 S5 => ?_) (.inr hln)
          refine wpAny_mono ((hsu a oe4 cls d (X.pn ++ pins) hz4 ⟨_, hd4⟩).run [] s5 _ H' _ S5 (hyes rfl a na)) (fun f s6 hsp => ?_) (fun _ _ z => False.elim z)
          have end_ : ∀ {σ6 : L2.St} {H6 : Hp} {Q : Shared → Prop}, Inv (X.suite a ((a, oe4) :: (X.pn ++ pins))) [] σ6 H6 s6 → (∀ s7, Inv X pins (σ6.set i none) H6 s7 → Q s7) →
              wpAny (model X.prog X.w) X.A (do bindName X.env n .none; unbindBehindTheSuite X.env n pos') (fun _ s7 => Q s7) X.xe s6 := fun {σ6 H6 Q} S6 hq => gone_ok (S6.unsuite ok) hN hi hln hq
          cases f with
          | next =>
            obtain ⟨σ6, H6, S6, q6⟩ := hsp
            exact end_ S6 fun s7 J7 => ⟨_, _, J7, q6⟩
          | brk =>
            obtain ⟨σ6, H6, S6, q6⟩ := hsp
            exact end_ S6 fun s7 J7 => ⟨_, _, J7, q6⟩
          | cont =>
            obtain ⟨σ6, H6, S6, q6⟩ := hsp
            exact end_ S6 fun s7 J7 => ⟨_, _, J7, q6⟩
          | ret u =>
            obtain ⟨v6, σ6, H6, S6, r6, q6⟩ := hsp
            exact end_ S6 fun s7 J7 => ⟨_, _, _, J7, r6, q6⟩
        | false =>
          show wpAny _ X.A (handleBy (.ref a) X.env hds2) _ _ _
          exact ih (hno rfl)
    exact go hh w
  · cases f with
    | next =>
      obtain ⟨σ', H', J', q⟩ := hsp
      exact wpAny_execs_nil ⟨σ', H', J'.ofTry ok, q⟩
    | brk =>
      obtain ⟨σ', H', J', q⟩ := hsp
      exact ⟨σ', H', J'.ofTry ok, q⟩
    | cont =>
      obtain ⟨σ', H', J', q⟩ := hsp
      exact ⟨σ', H', J'.ofTry ok, q⟩
    | ret u =>
      obtain ⟨v, σ', H', J', r, q⟩ := hsp
      exact ⟨v, σ', H', J'.ofTry ok, r, q⟩
end
/-! ### the fields of an own exception, and the exception made -/
/-- o.f = v, o an exception that is being made -/
def gOst (K : Frag) (f : Str) (to : TE) : TG := fun y σ H Q => to σ H fun x H2 => ∃ a C : Addr, x = .ref a ∧ OexC K C ∧ findIn K (.ref C) f = some none ∧
  ((H2 a = some (exo a C none) ∧ ∀ dx, H2 dx = none → dx ≠ a → Q σ (upd (upd H2 dx (exd dx [(f, y)])) a (exo a C (some dx)))) ∨
    ∃ (dx : Addr) (fs : List (Str × V)), H2 a = some (exo a C (some dx)) ∧ H2 dx = some (exd dx fs) ∧ fs.length ≤ 900 ∧ Q σ (upd H2 dx (exd dx ((f, y) :: fs))))
section
variable {X : Cx} {o : Expr} {to : TE} {f : Str} {pos : Pos}
theorem pg_ost (ho : PE X o to) (ha : ∀ v, assign (.Attribute o f pos) X.env v = (do
      let ov ← holding [v] (eval o X.env)
      standAt pos.atName
      holding [v, ov] (setAttr ov f v)
      release [v, ov] []) := by intro _; rfl) : PG X (.Attribute o f pos) (gOst X.K f to) := by
  refine ⟨fun pins s σ H v u Q I r h => ?_⟩
  rw [ha]
  refine wpAny_bind (wpAny_holding (thn (ho.run pins s σ H _ I h) fun ov s1 ⟨x, H2, I2, r2, a, C, ex, T, hno, q⟩ => ?_))
  subst ex
  obtain rfl : ov = Value.ref a := r2
  refine wpAny_bind (wpAny_standAt (wpAny_bind (wpAny_holding ?_)))
  rcases q with ⟨ea, q⟩ | ⟨dx, fs, ea, ed, hl, q⟩
  · exact ost_new T I2 ea hno r fun dx s' n ne J => wpAny_release ⟨σ, _, J, q dx n ne⟩
  · exact ost_old T I2 ea ed hl hno r fun s' J => wpAny_release ⟨σ, _, J, q⟩
end
/-- o.f = v, o a plain instance -/
def gFld (K : Frag) (f : Str) (to : TE) : TG := fun y σ H Q => to σ H fun x H2 => ∃ (a C dx : Addr) (fs : List (Str × V)), x = .ref a ∧ H2 a = some (.ins C dx fs) ∧ Cls K C ∧ NoAttr K C f ∧ fs.length < 1000 ∧ Q σ (upd H2 a (.ins C dx (putF f y fs)))
section
variable {X : Cx} {o : Expr} {to : TE} {f : Str} {pos : Pos}
theorem pg_fld (ho : PE X o to) (ha : ∀ v, assign (.Attribute o f pos) X.env v = (do
      let ov ← holding [v] (eval o X.env)
      standAt pos.atName
      holding [v, ov] (setAttr ov f v)
      release [v, ov] []) := by intro _; rfl) : PG X (.Attribute o f pos) (gFld X.K f to) := by
  refine ⟨fun pins s σ H v u Q I r h => ?_⟩
  rw [ha]
  refine wpAny_bind (wpAny_holding (thn (ho.run pins s σ H _ I h) fun ov s1 ⟨x, H2, I2, r2, a, C, dx, fs, ex, ea, c, n, l, q⟩ => ?_))
  subst ex
  obtain rfl : ov = Value.ref a := r2
  exact wpAny_bind (wpAny_standAt (wpAny_bind (wpAny_holding (setattr_ok I2 ea c n l r fun s' J => wpAny_release ⟨σ, _, J, q⟩))))
end
/-- __init__(self, ..) of an own exception: its fields, the last one first -/
def fldsR (names : List Str) (xs : List V) : List (Str × V) := (names.zip xs).reverse
def spXI (C : Addr) (names : List Str) : Sp := fun vs H Q _ => ∃ (a : Addr) (xs : List V), vs = .ref a :: xs ∧ xs.length = names.length ∧ H a = some (exo a C none) ∧
  ∀ dx H2, H dx = none → H2 a = some (exo a C (some dx)) → H2 dx = some (exd dx (fldsR names xs)) → (∀ b o, b ≠ a → H b = some o → H2 b = some o) → Q .non H2
structure XCal (P : Program) (w : World) (K : Frag) (mg : Str → Option Value) (base : Heap) (k : Nat) (x : Str) (C : Addr) (names : List Str) : Prop where
  oex : OexC K C
  xf : XfC K C
  gl : mg x = some (.ref C)
  no : ∀ f ∈ names, findIn K (.ref C) f = some none
  ini : ∃ (fI : Addr) (fd : FuncData) (ps : List Str), findIn K (.ref C) "__init__" = some (some (.ref fI)) ∧ typeIn K (.ref fI) = some (.type "function") ∧ FnOk P w K mg base CX0 k fI fd ps (spXI C names) ∧ Binds K fd ps []
section
variable {X : Cx} {x : Str} {e : Expr} {es : List Expr} {ta : TA} {p pos : Pos} {k j : Nat} {C : Addr} {names : List Str}
theorem pmk_xc (c : XCal X.prog X.w X.K X.mg X.base k x C names) (hr : Room j X.A) (hk : k + 1 ≤ j) (hg : Gl X x) (ha : PA X (e :: es) ta)
    (hdb : (x == ("__debug__" : Str)) = false := by decide) (he : starEach (e :: es) X.env = (false, eval e X.env) :: starEach es X.env := by rfl) (hpl : (backTo pos (starEach es X.env)).any (·.1) = false := by rfl) :
    PMk X (.Call (.Name x p) (e :: es) [] pos) (tMkO C (spXI C names) [] ta) := by
  obtain ⟨fI, fd, ps, h1, h2, F, b⟩ := c.ini
  exact pmk_oex c.oex h1 h2 F (hr.mono hk) b .nil pass0 hg c.gl ha hdb he hpl
end
/-- its reading, behind the arguments -/
theorem g_xc {C : Addr} {names : List Str} {vs : List V} {H1 : Hp} {Q : XK} (hl : vs.length = names.length) (hz : names.length ≤ 1000) (q : ∀ d H2, H1 d = none → Same H1 H2 → H2 d = some (.xd (fldsR names vs)) → Q (.ref C) (some d) H2) :
    vs.length ≤ 1000 ∧ ∀ a, H1 a = none → spXI C names (.ref a :: (vs ++ [])) (upd H1 a (exo a C none))
      (fun v H2 => v = .non ∧ ∃ (d : Addr) (fs : List (Str × V)), H2 a = some (exo a C (some d)) ∧ H2 d = some (exd d fs) ∧ H1 d = none ∧ Q (.ref C) (some d) (upd (del H2 a) d (.xd fs))) (fun _ _ _ => False) := by
  refine ⟨by omega, fun a na => ⟨a, vs, by rw [List.append_nil], hl, upd_same, fun dx H2 ndx ea ed kp => ?_⟩⟩
  have dne : dx ≠ a := fun z => by
    rw [z, upd_same] at ndx
    cases ndx
  have nd1 : H1 dx = none := by rw [upd_ne dne] at ndx; exact ndx
  refine ⟨rfl, dx, _, ea, ed, nd1, q dx _ nd1 (fun y o ey => ?_) upd_same⟩
  have ya : y ≠ a := fun z => by rw [z, na] at ey; cases ey
  have yd : y ≠ dx := fun z => by rw [z, nd1] at ey; cases ey
  rw [upd_ne yd, del_ne ya]
  exact kp _ _ ya (by rw [upd_ne ya]; exact ey)
/-! ### the body of such an __init__: its fields -/
def gOsts (K : Frag) (to : TE) : List Str → TGs
  | [] => gNil
  | f :: r => gCons (gOst K f to) (gOsts K to r)
theorem upd_selfU {H : Hp} {p : Addr} {o : HO} (h : H p = some o) : upd H p o = H := by
  funext b
  unfold upd
  split
  · rename_i e
    rw [e, h]
  · rfl
theorem g_osts {K : Frag} {C a dx : Addr} {σ : L2.St} {Q : L2.St → Hp → Prop} (T : OexC K C) (hσ : σ[0]? = some (some (.ref a))) (ne : dx ≠ a) : ∀ {names : List Str} {xs : List V} {fs : List (Str × V)} {H : Hp}, xs.length = names.length → fs.length + names.length ≤ 900 →
    (∀ f ∈ names, findIn K (.ref C) f = some none) → H a = some (exo a C (some dx)) → H dx = some (exd dx fs) → Q σ (upd H dx (exd dx ((names.zip xs).reverse ++ fs))) → gOsts K (tVar 0) names xs σ H Q
  | [], [], fs, H, _, _, _, _, ed, q => ⟨rfl, by
    have q' : Q σ (upd H dx (exd dx fs)) := q
    rw [upd_selfU ed] at q'
    exact q'⟩
  | [], _ :: _, _, _, hl, _, _, _, _, _ => by simp at hl
  | _ :: _, [], _, _, hl, _, _, _, _, _ => by simp at hl
  | f :: r, x :: xs, fs, H, hl, hz, no, ea, ed, q => by
    refine ⟨x, xs, rfl, .ref a, hσ, a, C, rfl, T, no f (List.mem_cons_self ..), .inr ⟨dx, fs, ea, ed, by simp at hz; omega, ?_⟩⟩
    refine g_osts T hσ ne (names := r) (xs := xs) (fs := (f, x) :: fs) (by simpa using hl) (by simp at hz ⊢; omega) (fun g hg => no g (List.mem_cons_of_mem _ hg)) (by rw [upd_ne ne.symm]; exact ea) upd_same ?_
    rw [upd_upd]
    rw [List.zip_cons_cons, List.reverse_cons, List.append_assoc] at q
    exact q
theorem g_osts0 {K : Frag} {C a : Addr} {σ : L2.St} {Q : L2.St → Hp → Prop} {f : Str} {r : List Str} {xs : List V} {H : Hp} (T : OexC K C) (hσ : σ[0]? = some (some (.ref a))) (hl : xs.length = (f :: r).length) (hz : r.length ≤ 800) (no : ∀ g ∈ f :: r, findIn K (.ref C) g = some none)
    (ea : H a = some (exo a C none)) (q : ∀ dx H2, H dx = none → H2 a = some (exo a C (some dx)) → H2 dx = some (exd dx (fldsR (f :: r) xs)) → (∀ b o, b ≠ a → H b = some o → H2 b = some o) → Q σ H2) : gOsts K (tVar 0) (f :: r) xs σ H Q := by
  cases xs with
  | nil => simp at hl
  | cons x xs =>
    refine ⟨x, xs, rfl, .ref a, hσ, a, C, rfl, T, no f (List.mem_cons_self ..), .inl ⟨ea, fun dx ndx ne => ?_⟩⟩
    refine g_osts T hσ ne (names := r) (xs := xs) (fs := [(f, x)]) (by simpa using hl) (by simp; omega) (fun g hg => no g (List.mem_cons_of_mem _ hg)) upd_same (by rw [upd_ne ne]; exact upd_same) ?_
    refine q dx _ ndx ?_ ?_ fun b o nb e => ?_
    · rw [upd_ne ne.symm]; exact upd_same
    · rw [upd_same]
      unfold fldsR
      rw [List.zip_cons_cons, List.reverse_cons]
    · have nd : b ≠ dx := fun z => by rw [z, ndx] at e; cases e
      rw [upd_ne nd, upd_ne nb, upd_ne nd]
      exact e
/-- self.f, self.g = (f, g) -/
theorem xi_many {K : Frag} {C a : Addr} {σ : L2.St} {Q : Hp → Prop} {f : Str} {r : List Str} {xs : List V} {H : Hp} (T : OexC K C) (hσ : σ[0]? = some (some (.ref a))) (hl : xs.length = (f :: r).length) (hz : r.length ≤ 800) (no : ∀ g ∈ f :: r, findIn K (.ref C) g = some none)
    (ea : H a = some (exo a C none)) (q : ∀ dx H2, H dx = none → H2 a = some (exo a C (some dx)) → H2 dx = some (exd dx (fldsR (f :: r) xs)) → (∀ b o, b ≠ a → H b = some o → H2 b = some o) → Q H2) :
    xs.length ≤ sizeLine ∧ ∀ p, H p = none → gTup K (f :: r).length (gOsts K (tVar 0) (f :: r)) (.ref p) σ (upd H p (.tup xs)) (fun _ H' => Q H') := by
  refine ⟨by rw [hl, List.length_cons, sizeLine_eq]; omega, fun p np => ⟨p, xs, rfl, SqT.of upd_same, hl, ?_⟩⟩
  have pa : p ≠ a := fun z => by rw [z, ea] at np; cases np
  refine g_osts0 T hσ hl hz no (by rw [upd_ne pa.symm]; exact ea) fun dx H2 ndx e1 e2 k => q dx H2 ?_ e1 e2 fun b o nb e => ?_
  · have np' : dx ≠ p := fun z => by rw [z, upd_same] at ndx; cases ndx
    rw [upd_ne np'] at ndx
    exact ndx
  · have bp : b ≠ p := fun z => by rw [z, np] at e; cases e
    exact k b o nb (by rw [upd_ne bp]; exact e)
/-- self.f = f -/
theorem xi_one {K : Frag} {C a : Addr} {σ : L2.St} {D : Ends} {f : Str} {x : V} {H : Hp} (T : OexC K C) (hσ : σ[0]? = some (some (.ref a))) (h1 : σ[1]? = some (some x)) (no : ∀ g ∈ [f], findIn K (.ref C) g = some none)
    (ea : H a = some (exo a C none)) (q : ∀ dx H2, H dx = none → H2 a = some (exo a C (some dx)) → H2 dx = some (exd dx (fldsR [f] [x])) → (∀ b o, b ≠ a → H b = some o → H2 b = some o) → D.nx σ H2) :
    tOst K f (tVar 0) (tVar 1) D σ H := by
  refine ⟨x, h1, .ref a, hσ, a, C, rfl, T, no f (List.mem_cons_self ..), .inl ⟨ea, fun dx ndx ne => q dx _ ndx upd_same (by rw [upd_ne ne]; exact upd_same) fun b o nb e => ?_⟩⟩
  have nd : b ≠ dx := fun z => by rw [z, ndx] at e; cases e
  rw [upd_ne nb, upd_ne nd]
  exact e
section
variable {σ : L2.St} {H : Hp} {Q : XK}
theorem g_mko {C : Addr} {sp : Sp} {dvs : List V} {ta : TA} (h : ta σ H fun vs H1 => vs.length ≤ 1000 ∧ ∀ a, H1 a = none → sp (.ref a :: (vs ++ dvs)) (upd H1 a (exo a C none))
  (fun v H2 => v = .non ∧ ∃ (d : Addr) (fs : List (Str × V)), H2 a = some (exo a C (some d)) ∧ H2 d = some (exd d fs) ∧ H1 d = none ∧ Q (.ref C) (some d) (upd (del H2 a) d (.xd fs))) (fun _ _ _ => False)) : tMkO C sp dvs ta σ H Q := h
theorem g_gfld {K : Frag} {f : Str} {to : TE} {y : V} {Q : L2.St → Hp → Prop} (h : to σ H fun x H2 => ∃ (a C dx : Addr) (fs : List (Str × V)), x = .ref a ∧ H2 a = some (.ins C dx fs) ∧ Cls K C ∧ NoAttr K C f ∧ fs.length < 1000 ∧ Q σ (upd H2 a (.ins C dx (putF f y fs)))) : gFld K f to y σ H Q := h
end
/-- a field of a caught exception -/
theorem fld_at {names : List Str} {xs : List V} {y : Str} {u : V} (i : Nat) (nd : names.Nodup) (h1 : names[i]? = some y) (h2 : xs[i]? = some u) : (fldsR names xs).lookup y = some u := lookup_zip_rev nd h1 h2
theorem g_xf {a : Addr} {cls : Value} {d : Option Addr} {C : Addr} {f : Str} {te : TE} {σ : L2.St} {H : Hp} {Q : VK} (h : te σ H fun x H1 => x = .ref a ∧ cls = .ref C ∧ ∃ (dd : Addr) (fs : List (Str × V)) (v : V), d = some dd ∧ H1 dd = some (.xd fs) ∧ fs.lookup f = some v ∧ Q v H1) : tXf a cls d C f te σ H Q := h
end Up

/-! ### own classes: ==, !=, operators; calls that let exceptions out -/
namespace Own
open PySem PySem.W L2 PyProof.Rows
section
variable {M : Model} {prog : Program} {w : World} {A : Around} {E : Value → Shared → Prop} {s : Shared} {K : Frag} {x C L f : Addr} {h₀ : Heap} {m : Str → Option Value} {ox : Obj} {od : Option Obj} {b tb : Value}
theorem ifBound_objNe {args : List Value} {Q : Option Value → Shared → Prop} (X : K.In s.heap) (I : InstAt s.heap x ox C od) (hs : findIn K (.ref C) "__ne__" = some (some (.builtin "object.__ne__")))
    (h : wpAny M A (call (.builtin "object.__ne__") (.ref x :: args)) (fun v => Q (some v)) E s) : wpAny M A (callSpecialIfBound? (.ref x) "__ne__" args) Q E s := by
  simp only [callSpecialIfBound?, bindSpecialIfBound?]
  refine wpAny_holding (wpAny_bind (wpAny_bind (wpAny_bind (I.type.here ((looks_findIn X hs).here ?_)))))
  refine wpAny_bind (wpAny_askSetting (wpAny_ite ?_))
  have fin : wpAny M A (call (.builtin "object.__ne__") ([.ref x] ++ args) >>= fun v => pure (some v)) Q E s := wpAny_bind (wpAny_mono h (fun v s' h' => wpAny_pure h') fun _ _ h' => h')
  split
  · exact wpAny_bind (wpAny_of_eq (F.cmp_object.ne.bind _) (wpAny_pure (by exact fin)))
  · exact wpAny_tryCatch (wpAny_bind (wpAny_of_eq (F.cmp_object.ne.bind _) (wpAny_pure (by exact fin))))
theorem entry_ne {Q : Fin → Shared → Prop} (hu : A.units < cLine) (X : K.In s.heap) (I : InstAt s.heap x ox C od) (hs : findIn K (.ref C) "__eq__" = some (some (.ref f))) (hf : isFn K (.ref f) = true)
    (h : wpAny (model prog w) A (call (.ref f) [.ref x, b]) (fun v s' => ∃ r, v = .bool r ∧ Q (.done (.ret (.bool !r))) s') E s) : wpAny (model prog w) A (Builtin.«object.__ne__» ⟨[.ref x, b], []⟩) Q E s := by
  unfold Builtin.«object.__ne__»
  refine wpAny_bind (wpAny_of_eq (a := ((Value.ref x : Value), [b])) (by first | rfl | (simp only [slotArgs]; rfl)) ?_)
  refine wpAny_bind (wpAny_cRoomFor hu ?_)
  refine wpAny_bind (ifBound_K X I hs hf (wpAny_mono h (fun v s' hv => ?_) fun _ _ e => e))
  obtain ⟨r, rfl, q⟩ := hv
  exact wpAny_bind (wpAny_truthy_bool (wpAny_pure q))
theorem ne_K {Q : Value → Shared → Prop} (hu : A.units + 1 < cLine) (X : K.In s.heap) (I : InstAt s.heap x ox C od) (hb : Looks (model prog w) s.heap (typeOf b) tb) (hn : notFirst K C tb = true) (hm : mroIn K C (.type "object") = some true)
    (hs : findIn K (.ref C) "__ne__" = some (some (.builtin "object.__ne__"))) (he : findIn K (.ref C) "__eq__" = some (some (.ref f))) (hf : isFn K (.ref f) = true)
    (h : wpAny (model prog w) A.in1 (call (.ref f) [.ref x, b]) (fun v s' => ∃ r, v = .bool r ∧ Q (.bool !r) s') E s) : wpAny (model prog w) A (richCompare .NotEq (.ref x) b) Q E s := by
  have one : wpAny (model prog w) A (tryCompare (.ref x) "__ne__" b) (fun r s' => ∃ v, r = some v ∧ Q v s') E s := by
    unfold tryCompare
    refine wpAny_bind (ifBound_objNe X I hs (wpAny_call (codeAny_call_builtin F.cmp_object.ne.plain F.cmpEntry_ne (check_slot F.cmpKind_ne F.cmpSplit_ne (I.type.andThen (looks_mroIn X hm)) (F.cmpArgs_ne _ _) (entry_ne (A := A.in1) hu X I he hf (wpAny_mono h (fun v s' hv => ?_) fun _ _ e => e))))))
    obtain ⟨r, rfl, q⟩ := hv
    exact ⟨r, rfl, wpAny_pure ⟨_, rfl, q⟩⟩
  unfold richCompare
  simp only [oneThing_ref, cmpInfo_NotEq]
  refine wpAny_holding (wpAny_bind (wpAny_cRoomFor (Nat.lt_of_succ_lt hu) ?_))
  refine wpAny_bind (I.type.here (wpAny_bind (hb.here ?_)))
  split
  · rename_i q
    have e : subIn K tb (.ref C) = some false := by
      rcases Bool.or_eq_true_iff.mp hn with e | e
      · rw [beq_iff_eq.mp e] at q; simp at q
      · exact beq_iff_eq.mp e
    refine wpAny_bind ((looks_subIn X e).here ?_)
    simp only [Bool.false_eq_true, if_false]
    refine wpAny_bind (wpAny_mono one (fun r s' z => ?_) fun _ _ e => e)
    obtain ⟨v, rfl, hq⟩ := z
    exact wpAny_pure hq
  · refine wpAny_bind (wpAny_pure ?_)
    simp only [Bool.false_eq_true, if_false]
    refine wpAny_bind (wpAny_mono one (fun r s' z => ?_) fun _ _ e => e)
    obtain ⟨v, rfl, hq⟩ := z
    exact wpAny_pure hq
end
theorem rel_ni : ∀ {v : V}, ¬ RelV v Value.notImplemented
  | .non, h => nomatch (show Value.notImplemented = Value.none from h)
  | .bl _, h => nomatch (show Value.notImplemented = Value.bool _ from h)
  | .int _, h => by obtain ⟨_, h⟩ := (show ∃ t, Value.notImplemented = Value.int _ t from h); cases h
  | .str _, h => by obtain ⟨_, h⟩ := (show ∃ t, Value.notImplemented = Value.str _ t from h); cases h
  | .byt _, h => by obtain ⟨_, h⟩ := (show ∃ t, Value.notImplemented = Value.bytes _ t from h); cases h
  | .flt _, h => by obtain ⟨_, h⟩ := (show ∃ t, Value.notImplemented = Value.float _ t from h); cases h
  | .ref _, h => nomatch (show Value.notImplemented = Value.ref _ from h)
  | .ty _, h => nomatch (show Value.notImplemented = Value.type _ from h)
theorem backRel {X : Cx} {pins : List (Addr × Obj)} {σ : L2.St} {Q : VK} {u : Value} {s' : Shared} (h : EP X pins σ Q u s') : PySem.W.CmpBack (EP X pins σ Q) u s' := by
  obtain ⟨v, H', I, r, q⟩ := id h
  unfold PySem.W.CmpBack
  split
  · exact rel_ni r
  · exact h
theorem sub_ty {K : Frag} {C : Addr} {T : String} {l : List String} (e : fastBuiltinMro T = some (l.map Value.type)) : subIn K (.type T) (.ref C) = some false := by
  show (fastBuiltinMro T).map (·.contains (.ref C)) = some false
  rw [e]
  show some ((l.map Value.type).contains (.ref C)) = some false
  congr 1
  induction l with
  | nil => rfl
  | cons a l ih => simp
theorem nf_ty {K : Frag} {C : Addr} {T : String} {l : List String} (e : fastBuiltinMro T = some (l.map Value.type)) : notFirst K C (.type T) = true := by
  unfold notFirst
  rw [sub_ty e]
  rfl
theorem nf_int {K : Frag} {C : Addr} : notFirst K C (.type "int") = true := nf_ty (l := ["int", "object"]) (by decide +kernel)
theorem nf_str {K : Frag} {C : Addr} : notFirst K C (.type "str") = true := nf_ty (l := ["str", "object"]) (by decide +kernel)
theorem nf_bool {K : Frag} {C : Addr} : notFirst K C (.type "bool") = true := nf_ty (l := ["bool", "int", "object"]) (by decide +kernel)
theorem nf_none {K : Frag} {C : Addr} : notFirst K C (.type "NoneType") = true := nf_ty (l := ["NoneType", "object"]) (by decide +kernel)
theorem nf_tup {K : Frag} {C : Addr} : notFirst K C (.type "tuple") = true := nf_ty (l := ["tuple", "object"]) (by decide +kernel)
theorem nf_list {K : Frag} {C : Addr} : notFirst K C (.type "list") = true := nf_ty (l := ["list", "object"]) (by decide +kernel)
theorem nf_self {K : Frag} {C : Addr} : notFirst K C (.ref C) = true := by
  unfold notFirst
  simp
/-- x op y, x an instance of the class at C whose own method keeps sp, y of a type that is no subclass of C -/
def rOwn (K : Frag) (C : Addr) (sp : Sp) (g : VK → VK) : R2 := fun x y H Q => ∃ a dx fs t, x = .ref a ∧ H a = some (.ins C dx fs) ∧ TyX K H y t ∧ notFirst K C t = true ∧ sp [x, y] H (g Q) L2.E0
/-- a method as a special one -/
structure MCal (P : Program) (w : World) (K : Frag) (mg : Str → Option Value) (base : Heap) (k : Nat) (C : Addr) (m : Str) (sp : Sp) : Prop where
  ex : ∃ (f : Addr) (fd : FuncData) (ps : List Str), FnOk P w K mg base CX0 k f fd ps sp ∧ Meth K C m f ∧ Binds K fd ps []
section
variable {X : Cx} {k j : Nat} {C : Addr} {sp : Sp} {m : Str}
theorem run_at {A : Around} {pins : List (Addr × Obj)} {σ : L2.St} {H : Hp} {s : Shared} {Q : VK} {us : List Value} {vs : List V} {f : Addr} {fd : FuncData} {ps : List Str} {E : Value → Shared → Prop} (F : FnOk X.prog X.w X.K X.mg X.base CX0 k f fd ps sp) (hr : Room k A) (hA : A.frames = X.A.frames) (hb : Binds X.K fd ps [])
    (I : Inv X pins σ H s) (r : Vals vs us) (h : sp vs H Q L2.E0) : wpAny (model X.prog X.w) A (call (.ref f) us) (EP X pins σ Q) E s := by
  have e0 : Env0 X.prog X.w X.K X.mg X.base A X.stack s H := by
    have e := I.env0
    exact ⟨by rw [hA]; exact e.frames, e.mod, e.bs, e.bsz, e.funs, e.frf, e.hok, e.bare⟩
  have hl : us.length = ps.length := by rw [← r.length]; exact F.len _ _ _ _ h
  have b := hb s us I.kIn (by rw [List.append_nil]; exact hl)
  rw [List.append_nil] at b
  refine wpAny_call (codeAny_mono (F.run A X.stack s H ⟨us, []⟩ us vs Q L2.E0 hr e0 b r h) fun r s' hq => ?_)
  cases r with
  | error e => exact hq.elim
  | ok fl =>
    cases fl with
    | ret u => exact I.after hq
    | next => exact False.elim hq
    | brk => exact False.elim hq
    | cont => exact False.elim hq
theorem op_eqOwn (M : MCal X.prog X.w X.K X.mg X.base k C "__eq__" sp) (hr : Room j X.A) (hk : k ≤ j) : OpR X (compareOp .Eq) (rOwn X.K C sp id) := by
  intro pins s σ H x y v u Q I rx ry hq
  obtain ⟨f, fd, ps, F, hm, hb⟩ := M.ex
  obtain ⟨a, dx, fs, t, rfl, ea, ty, nf, h⟩ := hq
  obtain rfl : v = Value.ref a := rx
  obtain ⟨mA, J, _⟩ := ins_get I.hok ea
  obtain ⟨od, J, _⟩ := J.look
  obtain ⟨PP, Z, p, _⟩ := kit_of I ry ty
  obtain ⟨mm, hF⟩ := I.fr
  show wpAny (model X.prog X.w) X.A (richCompare .Eq (.ref a) u) (EP X pins σ Q) X.xe s
  refine cmp_K (op := .Eq) (tb := t) hr.units0 hF I.ok.mod.kin J (Z.ty _ _ I.kIn p) nf hm.at_ hm.fn (wpAny_mono (run_at (us := [.ref a, u]) (vs := [.ref a, y]) F (hr.mono hk) rfl hb I (.cons rfl (.cons ry .nil)) h) (fun _ _ q => backRel q) fun _ _ e => e)
theorem op_neOwn (M : MCal X.prog X.w X.K X.mg X.base k C "__eq__" sp) (hr : Room j X.A) (hk : k + 1 ≤ j) (ho : mroIn X.K C (.type "object") = some true) (hs : findIn X.K (.ref C) "__ne__" = some (some (.builtin "object.__ne__"))) :
    OpR X (compareOp .NotEq) (rOwn X.K C sp fun Q v H => ∃ b, v = .bl b ∧ Q (.bl !b) H) := by
  intro pins s σ H x y v u Q I rx ry hq
  obtain ⟨f, fd, ps, F, hm, hb⟩ := M.ex
  obtain ⟨a, dx, fs, t, rfl, ea, ty, nf, h⟩ := hq
  obtain rfl : v = Value.ref a := rx
  obtain ⟨mA, J, _⟩ := ins_get I.hok ea
  obtain ⟨od, J, _⟩ := J.look
  obtain ⟨PP, Z, p, _⟩ := kit_of I ry ty
  show wpAny (model X.prog X.w) X.A (richCompare .NotEq (.ref a) u) (EP X pins σ Q) X.xe s
  have hr1 : Room k X.A.in1 := (hr.mono hk).in1
  refine ne_K (tb := t) (by have := hr.un; omega) I.kIn J (Z.ty _ _ I.kIn p) nf ho hs hm.at_ hm.fn (wpAny_mono (run_at (us := [.ref a, u]) (vs := [.ref a, y]) F hr1 rfl hb I (.cons rfl (.cons ry .nil)) h) (fun w' s' q => ?_) fun _ _ e => e)
  obtain ⟨v', H', I', rv, b, rfl, q⟩ := q
  cases rv
  exact ⟨b, rfl, .bl (!b), H', I', rfl, q⟩
/-- x op y, both of the class -/
def rOwnB (C : Addr) (sp : Sp) : R2 := fun x y H Q => ∃ a dx fs b dy gs, x = .ref a ∧ H a = some (.ins C dx fs) ∧ y = .ref b ∧ H b = some (.ins C dy gs) ∧ sp [x, y] H Q L2.E0
theorem op_ownB {op : Operator} (M : MCal X.prog X.w X.K X.mg X.base k C (PySem.dunder op.info.2) sp) (hr : Room j X.A) (hk : k ≤ j) (sf : selfFirst X.K C = true) : OpR X (binaryOp op) (rOwnB C sp) := by
  intro pins s σ H x y v u Q I rx ry hq
  obtain ⟨f, fd, ps, F, hm, hb⟩ := M.ex
  obtain ⟨a, dx, fs, b, dy, gs, rfl, ea, rfl, eb, h⟩ := hq
  obtain rfl : v = Value.ref a := rx
  obtain rfl : u = Value.ref b := ry
  obtain ⟨mA, J, _⟩ := ins_get I.hok ea
  obtain ⟨od, J, _⟩ := J.look
  obtain ⟨mB, J', _⟩ := ins_get I.hok eb
  obtain ⟨od', J', _⟩ := J'.look
  obtain ⟨mm, hF⟩ := I.fr
  refine binop_K hF I.ok.mod.kin J J'.type sf hm.at_ hm.fn (wpAny_mono (run_at (us := [.ref a, .ref b]) (vs := [.ref a, .ref b]) F (hr.mono hk) rfl hb I (.cons rfl (.cons rfl .nil)) h) (fun _ _ q => backRel q) fun _ _ e => e)
/-- x op i, x of the class, i a whole number -/
def rOwnI (C : Addr) (sp : Sp) : R2 := fun x y H Q => ∃ a dx fs i, x = .ref a ∧ H a = some (.ins C dx fs) ∧ y = .int i ∧ sp [x, y] H Q L2.E0
structure OpI (K : Frag) (C : Addr) (op : Operator) : Prop where
  sf : selfFirst K C = true
  rr : findIn K (.ref C) (dunderR op.info.2) = some none
  i1 : ∃ fo, findIn K (.type "int") (PySem.dunder op.info.2) = some fo
  i2 : ∃ ro, findIn K (.type "int") (dunderR op.info.2) = some ro
theorem op_ownI {op : Operator} (M : MCal X.prog X.w X.K X.mg X.base k C (PySem.dunder op.info.2) sp) (hr : Room j X.A) (hk : k ≤ j) (O : OpI X.K C op) : OpR X (binaryOp op) (rOwnI C sp) := by
  intro pins s σ H x y v u Q I rx ry hq
  obtain ⟨f, fd, ps, F, hm, hb⟩ := M.ex
  obtain ⟨a, dx, fs, i, rfl, ea, rfl, h⟩ := hq
  obtain ⟨fo, h1⟩ := O.i1
  obtain ⟨ro, h2⟩ := O.i2
  obtain rfl : v = Value.ref a := rx
  obtain ⟨t, rfl⟩ : ∃ t, u = Value.int i t := ry
  obtain ⟨mA, J, _⟩ := ins_get I.hok ea
  obtain ⟨od, J, _⟩ := J.look
  obtain ⟨mm, hF⟩ := I.fr
  refine ksp_binT (T := "int") hF I.ok.mod.kin J rfl O.sf hm.at_ hm.fn O.rr (.inl rfl) h1 h2 (sub_ty (l := ["int", "object"]) (by decide +kernel)) (wpAny_mono (run_at (us := [.ref a, .int i t]) (vs := [.ref a, .int i]) F (hr.mono hk) rfl hb I (.cons rfl (.cons ⟨t, rfl⟩ .nil)) h) (fun _ _ q => backRel q) fun _ _ e => e)
end
/-! ### contracts -/
/-- a def that may let exceptions out -/
structure RCal (P : Program) (w : World) (K : Frag) (mg : Str → Option Value) (base : Heap) (k : Nat) (x : Str) (sp : Sp) : Prop where
  ex : ∃ (f : Addr) (fd : FuncData) (ps : List Str), FnOk P w K mg base (L2.CX P w) k f fd ps sp ∧ mg x = some (.ref f) ∧ keepIn K (.ref f) = true ∧ Binds K fd ps []
/-- a method that may let exceptions out -/
structure RMCal (P : Program) (w : World) (K : Frag) (mg : Str → Option Value) (base : Heap) (k : Nat) (C : Addr) (m : Str) (sp : Sp) : Prop where
  ex : ∃ (f : Addr) (fd : FuncData) (ps : List Str), FnOk P w K mg base (L2.CX P w) k f fd ps sp ∧ Meth K C m f ∧ Binds K fd ps []
/-- a class that is called; dvs: the defaults that fill up -/
structure MkC (CX : CXT) (P : Program) (w : World) (K : Frag) (mg : Str → Option Value) (base : Heap) (k : Nat) (x : Str) (C : Addr) (sp : Sp) (dvs : List V) : Prop where
  ex : ∃ (f : Addr) (fd : FuncData) (ps : List Str) (ds : List Value), FnOk P w K mg base CX k f fd ps sp ∧ Mk K C f ∧ mg x = some (.ref C) ∧ Binds K fd ps ds ∧ Vals dvs ds
/-- .. what is raised wished for at the caller's slots -/
def tMakeS (C : Addr) (sp : Sp) (dvs : List V) (E : L2.St → XK) (t : TA) : TE := fun σ H Q => t σ H fun vs H1 => ∀ x dx, H1 x = none → H1 dx = none → dx ≠ x →
  sp (.ref x :: (vs ++ dvs)) (upd (upd H1 dx (.own x)) x (.ins C dx [])) (fun v H2 => v = .non ∧ Q (.ref x) H2) (E σ)
def tMethS (C : Addr) (m : Str) (sp : Sp) (E : L2.St → XK) (ta : TE) (t : TA) : TE := fun σ H Q => ta σ H fun x H1 => ∃ a dx fs, x = .ref a ∧ H1 a = some (.ins C dx fs) ∧ fs.lookup m = none ∧
  t σ H1 fun vs H2 => sp (x :: vs) H2 Q (E σ)
section
variable {X : Cx} {CX : CXT} {k j : Nat} {x m : Str} {C : Addr} {sp : Sp} {dvs : List V} {e o : Expr} {es : List Expr} {ta : TE} {t : TA} {p pos apos : Pos} {W : WX} {E : XK}
theorem rcal (c : RCal X.prog X.w X.K X.mg X.base k x sp) (hr : Room j X.A) (hk : k ≤ j) (hg : Gl X x) (ha : PA X (e :: es) t)
    (hdb : (x == ("__debug__" : Str)) = false := by decide) (he : starEach (e :: es) X.env = (false, eval e X.env) :: starEach es X.env := by rfl) (hpl : (backTo pos (starEach es X.env)).any (·.1) = false := by rfl) :
    PE X (.Call (.Name x p) (e :: es) [] pos) (tCall sp [] L2.E0 t) := by
  obtain ⟨f, fd, ps, F, hm, kp, b⟩ := c.ex
  exact pe_call F (hr.mono hk) hg hm kp b .nil passL ha hdb he hpl
theorem rcal0 (c : RCal X.prog X.w X.K X.mg X.base k x sp) (hr : Room j X.A) (hk : k ≤ j) (hg : Gl X x) (hdb : (x == ("__debug__" : Str)) = false := by decide) :
    PE X (.Call (.Name x p) [] [] pos) (tCall sp [] L2.E0 tNil) := by
  obtain ⟨f, fd, ps, F, hm, kp, b⟩ := c.ex
  exact pe_call0 F (hr.mono hk) hg hm kp b .nil passL hdb
theorem rcalS (c : RCal X.prog X.w X.K X.mg X.base k x sp) (hr : Room j X.A) (hk : k ≤ j) (tk : Takes X W) (hg : Gl X x) (ha : PA X (e :: es) t)
    (hdb : (x == ("__debug__" : Str)) = false := by decide) (he : starEach (e :: es) X.env = (false, eval e X.env) :: starEach es X.env := by rfl) (hpl : (backTo pos (starEach es X.env)).any (·.1) = false := by rfl) :
    PE X (.Call (.Name x p) (e :: es) [] pos) (tCallS sp (WE W) t) := by
  obtain ⟨f, fd, ps, F, hm, kp, b⟩ := c.ex
  exact pe_callS F (hr.mono hk) hg hm kp b (fun σ => passAt tk σ) ha hdb he hpl
theorem pmake (c : MkC CX X.prog X.w X.K X.mg X.base k x C sp dvs) (hx : Passes CX X E) (hr : Room j X.A) (hk : k + 1 ≤ j) (hg : Gl X x) (ha : PA X (e :: es) t)
    (hdb : (x == ("__debug__" : Str)) = false := by decide) (he : starEach (e :: es) X.env = (false, eval e X.env) :: starEach es X.env := by rfl) (hpl : (backTo pos (starEach es X.env)).any (·.1) = false := by rfl) :
    PE X (.Call (.Name x p) (e :: es) [] pos) (tMake C sp dvs E t) := by
  obtain ⟨f, fd, ps, ds, F, M, hm, b, hd⟩ := c.ex
  exact pe_make M F (hr.mono hk) hg hm b hd hx ha hdb he hpl
theorem pmake0 (c : MkC CX X.prog X.w X.K X.mg X.base k x C sp dvs) (hx : Passes CX X E) (hr : Room j X.A) (hk : k + 1 ≤ j) (hg : Gl X x) (hdb : (x == ("__debug__" : Str)) = false := by decide) :
    PE X (.Call (.Name x p) [] [] pos) (tMake C sp dvs E tNil) := by
  obtain ⟨f, fd, ps, ds, F, M, hm, b, hd⟩ := c.ex
  exact pe_make0 M F (hr.mono hk) hg hm b hd hx hdb
theorem pmakeS (c : MkC (L2.CX X.prog X.w) X.prog X.w X.K X.mg X.base k x C sp dvs) (tk : Takes X W) (hr : Room j X.A) (hk : k + 1 ≤ j) (hg : Gl X x) (ha : PA X (e :: es) t)
    (hdb : (x == ("__debug__" : Str)) = false := by decide) (he : starEach (e :: es) X.env = (false, eval e X.env) :: starEach es X.env := by rfl) (hpl : (backTo pos (starEach es X.env)).any (·.1) = false := by rfl) :
    PE X (.Call (.Name x p) (e :: es) [] pos) (tMakeS C sp dvs (WE W) t) := by
  obtain ⟨f, fd, ps, ds, F, M, hm, b, hd⟩ := c.ex
  refine ⟨fun pins s σ H Q I h => ?_⟩
  refine wpAny_Call_Name_kw (ld_glob I hg hm ?_ hdb)
  refine callWith_K (h₀ := X.base) I.ok.mod.kin M.kp (thn (ha.run pos pins s σ H _ I h) fun us s1 ⟨vs, H1, I1, r, q⟩ => ⟨I1.kIn, ?_⟩) he hpl
  have hr1 := hr.mono hk
  have hq := q (s1.heap.objs.size + 1) s1.heap.objs.size (I1.hok.fresh (Nat.le_succ _)) (I1.hok.fresh (Nat.le_refl _)) (Nat.ne_of_lt (Nat.lt_succ_self _))
  have I2 := Inv.made (C := C) I1
  have r2 : Vals (V.ref (s1.heap.objs.size + 1) :: (vs ++ dvs)) (Value.ref (s1.heap.objs.size + 1) :: (us ++ ds)) := .cons rfl (r.append hd)
  have hl : (Value.ref (s1.heap.objs.size + 1) :: us ++ ds).length = ps.length := by
    have e := r2.length
    rw [F.len _ _ _ _ hq] at e
    exact e.symm
  refine wpAny_call (make_map (f := f) I1.kIn M.makes M.init (beq_iff_eq.mp M.fn) (codeAny_mono (F.run _ X.stack _ _ ⟨Value.ref (s1.heap.objs.size + 1) :: us, []⟩ (Value.ref (s1.heap.objs.size + 1) :: (us ++ ds)) _ _ (WE W σ) (hr1.make C us [])
    (I2.env0.make C us []) (b _ (Value.ref (s1.heap.objs.size + 1) :: us) I2.kIn hl) r2 hq) fun r s' hq' => ?_))
  cases r with
  | error e => exact passAt tk σ pins _ _ e s' I2 hq'
  | ok fl =>
    cases fl with
    | ret u =>
      obtain ⟨v, H', I3, rv, ev, q3⟩ := I2.after hq'
      subst ev
      exact ⟨rv, ⟨V.ref (s1.heap.objs.size + 1), H', I3, rfl, q3⟩⟩
    | next => exact False.elim hq'
    | brk => exact False.elim hq'
    | cont => exact False.elim hq'
theorem pmeth {pl : Sem Bool} (c : MCal X.prog X.w X.K X.mg X.base k C m sp) (cl : Cls X.K C) (hr : Room j X.A) (hk : k ≤ j) (he : PE X o ta) (ha : PA X (e :: es) t)
    (hst : starEach (e :: es) X.env = (false, eval e X.env) :: starEach es X.env := by rfl) (hpl : (backTo pos (starEach es X.env)).any (·.1) = false := by rfl)
    (ht : eval (.Call (.Attribute o m apos) (e :: es) [] pos) X.env = (do
      let ov ← eval o X.env
      standAt apos.atName
      let (f, first) ← holding [ov] (getMethod ov m pl)
      callWith pos f first (backTo pos (starEach (e :: es) X.env)) (backToKw pos (keywordEach [] X.env))) := by rfl) :
    PE X (.Call (.Attribute o m apos) (e :: es) [] pos) (tMeth C m sp [] L2.E0 ta t) := by
  obtain ⟨f, fd, ps, F, hm, b⟩ := c.ex
  exact pe_meth he cl hm F (hr.mono hk) b .nil pass0 ha hst hpl ht
theorem pmeth0 {pl : Sem Bool} (c : MCal X.prog X.w X.K X.mg X.base k C m sp) (cl : Cls X.K C) (hr : Room j X.A) (hk : k ≤ j) (he : PE X o ta)
    (ht : eval (.Call (.Attribute o m apos) [] [] pos) X.env = (do
      let ov ← eval o X.env
      standAt apos.atName
      let (f, first) ← holding [ov] (getMethod ov m pl)
      callWith pos f first (backTo pos (starEach [] X.env)) (backToKw pos (keywordEach [] X.env))) := by rfl) :
    PE X (.Call (.Attribute o m apos) [] [] pos) (tMeth C m sp [] L2.E0 ta tNil) := by
  obtain ⟨f, fd, ps, F, hm, b⟩ := c.ex
  exact pe_meth0 he cl hm F (hr.mono hk) b .nil pass0 ht
theorem rmeth {pl : Sem Bool} (c : RMCal X.prog X.w X.K X.mg X.base k C m sp) (cl : Cls X.K C) (hr : Room j X.A) (hk : k ≤ j) (he : PE X o ta) (ha : PA X (e :: es) t)
    (hst : starEach (e :: es) X.env = (false, eval e X.env) :: starEach es X.env := by rfl) (hpl : (backTo pos (starEach es X.env)).any (·.1) = false := by rfl)
    (ht : eval (.Call (.Attribute o m apos) (e :: es) [] pos) X.env = (do
      let ov ← eval o X.env
      standAt apos.atName
      let (f, first) ← holding [ov] (getMethod ov m pl)
      callWith pos f first (backTo pos (starEach (e :: es) X.env)) (backToKw pos (keywordEach [] X.env))) := by rfl) :
    PE X (.Call (.Attribute o m apos) (e :: es) [] pos) (tMeth C m sp [] L2.E0 ta t) := by
  obtain ⟨f, fd, ps, F, hm, b⟩ := c.ex
  exact pe_meth he cl hm F (hr.mono hk) b .nil passL ha hst hpl ht
theorem rmeth0 {pl : Sem Bool} (c : RMCal X.prog X.w X.K X.mg X.base k C m sp) (cl : Cls X.K C) (hr : Room j X.A) (hk : k ≤ j) (he : PE X o ta)
    (ht : eval (.Call (.Attribute o m apos) [] [] pos) X.env = (do
      let ov ← eval o X.env
      standAt apos.atName
      let (f, first) ← holding [ov] (getMethod ov m pl)
      callWith pos f first (backTo pos (starEach [] X.env)) (backToKw pos (keywordEach [] X.env))) := by rfl) :
    PE X (.Call (.Attribute o m apos) [] [] pos) (tMeth C m sp [] L2.E0 ta tNil) := by
  obtain ⟨f, fd, ps, F, hm, b⟩ := c.ex
  exact pe_meth0 he cl hm F (hr.mono hk) b .nil passL ht
theorem rmethS {pl : Sem Bool} (c : RMCal X.prog X.w X.K X.mg X.base k C m sp) (tk : Takes X W) (cl : Cls X.K C) (hr : Room j X.A) (hk : k ≤ j) (he : PE X o ta) (ha : PA X (e :: es) t)
    (hst : starEach (e :: es) X.env = (false, eval e X.env) :: starEach es X.env := by rfl) (hpl : (backTo pos (starEach es X.env)).any (·.1) = false := by rfl)
    (ht : eval (.Call (.Attribute o m apos) (e :: es) [] pos) X.env = (do
      let ov ← eval o X.env
      standAt apos.atName
      let (f, first) ← holding [ov] (getMethod ov m pl)
      callWith pos f first (backTo pos (starEach (e :: es) X.env)) (backToKw pos (keywordEach [] X.env))) := by rfl) :
    PE X (.Call (.Attribute o m apos) (e :: es) [] pos) (tMethS C m sp (WE W) ta t) := by
  obtain ⟨f, fd, ps, F, hm, b⟩ := c.ex
  refine ⟨fun pins s σ H Q I h => ?_⟩
  refine methodCall_KW (pl := pl) (thn (he.run pins s σ H _ I h) fun u s1 ⟨x, H1, I1, rx, a, dx, fs, ex, ea, l, q⟩ => ?_) ht
  subst ex
  obtain rfl : u = Value.ref a := rx
  refine getmeth_ok I1 ea cl hm l ?_
  refine callWith_K (first := [.ref a]) (h₀ := X.base) I.ok.mod.kin hm.kp (thn (ha.run pos pins s1 σ H1 _ I1 q) fun us s2 ⟨vs, H2, I2, r, q2⟩ => ⟨I2.kIn, ?_⟩) hst hpl
  exact run_fnS (us := .ref a :: us) (vs := .ref a :: vs) F (hr.mono hk) b (passAt tk σ) I2 (.cons rfl r) q2
theorem rmeth0S {pl : Sem Bool} (c : RMCal X.prog X.w X.K X.mg X.base k C m sp) (tk : Takes X W) (cl : Cls X.K C) (hr : Room j X.A) (hk : k ≤ j) (he : PE X o ta)
    (ht : eval (.Call (.Attribute o m apos) [] [] pos) X.env = (do
      let ov ← eval o X.env
      standAt apos.atName
      let (f, first) ← holding [ov] (getMethod ov m pl)
      callWith pos f first (backTo pos (starEach [] X.env)) (backToKw pos (keywordEach [] X.env))) := by rfl) :
    PE X (.Call (.Attribute o m apos) [] [] pos) (tMethS C m sp (WE W) ta tNil) := by
  obtain ⟨f, fd, ps, F, hm, b⟩ := c.ex
  refine ⟨fun pins s σ H Q I h => ?_⟩
  refine methodCall_KW (pl := pl) (thn (he.run pins s σ H _ I h) fun u s1 ⟨x, H1, I1, rx, a, dx, fs, ex, ea, l, q⟩ => ?_) ht
  subst ex
  obtain rfl : u = Value.ref a := rx
  refine getmeth_ok I1 ea cl hm l ?_
  exact callWith_K0 (first := [.ref a]) I1.kIn hm.kp (run_fnS (us := [.ref a]) (vs := [.ref a]) F (hr.mono hk) b (passAt tk σ) I1 (.cons rfl .nil) q)
end
theorem mkc_of {CX : CXT} {P : Program} {w : World} {K : Frag} {mg : Str → Option Value} {base : Heap} {k : Nat} {x : Str} {C f : Addr} {fd : FuncData} {ps : List Str} {sp : Sp} {dvs : List V} {ds : List Value} (F : FnOk P w K mg base CX k f fd ps sp) (M : Mk K C f) (hm : mg x = some (.ref C)) (b : Binds K fd ps ds) (hd : Vals dvs ds) :
    MkC CX P w K mg base k x C sp dvs := ⟨f, fd, ps, ds, F, M, hm, b, hd⟩
section
variable {σ : L2.St} {H : Hp} {Q : VK}
theorem g_makeS {C : Addr} {sp : Sp} {dvs : List V} {E : L2.St → XK} {t : TA} (h : t σ H fun vs H1 => ∀ x dx, H1 x = none → H1 dx = none → dx ≠ x → sp (.ref x :: (vs ++ dvs)) (upd (upd H1 dx (.own x)) x (.ins C dx [])) (fun v H2 => v = .non ∧ Q (.ref x) H2) (E σ)) : tMakeS C sp dvs E t σ H Q := h
theorem g_methS {C : Addr} {m : Str} {sp : Sp} {E : L2.St → XK} {ta : TE} {t : TA} (h : ta σ H fun x H1 => ∃ a dx fs, x = .ref a ∧ H1 a = some (.ins C dx fs) ∧ fs.lookup m = none ∧ t σ H1 fun vs H2 => sp (x :: vs) H2 Q (E σ)) : tMethS C m sp E ta t σ H Q := h
theorem kit_no {K : Frag} {C : Addr} {T : String} (hd : hasDictIn K C = true) (tc : typeIn K (.ref C) = some (.type "type")) (e : subIn K (.type T) (.ref C) = some false) : kitOne K (.type T) (.ref C) = some false := by
  obtain ⟨cd, hcd, _⟩ := any_some hd
  unfold kitOne
  have ne : (Value.type T == Value.ref C) = false := Bool.eq_false_iff.mpr fun q => by cases beq_iff_eq.mp q
  rw [ne, if_neg Bool.false_ne_true]
  show (if ((clsIn K C).isSome && typeIn K (.ref C) == some (.type "type")) = true then subIn K (.type T) (.ref C) else none) = some false
  rw [hcd, tc, if_pos (by rfl), e]
theorem kit_nothing {K : Frag} {C : Addr} {T : String} {l : List String} (hd : hasDictIn K C = true) (tc : typeIn K (.ref C) = some (.type "type")) (e : fastBuiltinMro T = some (l.map Value.type)) : kitOne K (.type T) (.ref C) = some false := kit_no hd tc (sub_ty e)
end
theorem kit_self {K : Frag} {t : Value} : kitOne K t t = some true := by
  unfold kitOne
  rw [if_pos (beq_self_eq_true t)]
theorem kit_notype {K : Frag} {C : Addr} {T : String} (h : mroIn K C (.type T) = some false) (m : kitMeta T = true) : kitOne K (.ref C) (.type T) = some false := by
  unfold kitOne
  have ne : (Value.ref C == Value.type T) = false := Bool.eq_false_iff.mpr fun q => by cases beq_iff_eq.mp q
  rw [ne, if_neg Bool.false_ne_true]
  show (if kitMeta T = true then subIn K (.ref C) (.type T) else none) = some false
  rw [if_pos m]
  exact h
/-- what «except C» does with an exception of the class at S -/
theorem exm_own {K : Frag} {S C : Addr} {b : Bool} (h1 : subIn K (.ref C) (.type "BaseException") = some true) (h2 : hasDictIn K C = true) (h3 : typeIn K (.ref C) = some (.type "type")) (h4 : mroIn K S (.ref C) = some b) : exmOne K (.ref S) (.ref C) = some b := by
  obtain ⟨cd, hcd, _⟩ := any_some h2
  unfold exmOne
  rw [h1, if_pos (by rfl)]
  show (if ((clsIn K C).isSome && typeIn K (.ref C) == some (.type "type")) = true then subIn K (.ref S) (.ref C) else none) = some b
  rw [hcd, h3, if_pos (by rfl)]
  exact h4
end Own

open PySem L2 Pre
local macro_rules | `(tactic| walk_at "side") => `(tactic| first | assumption | ((try dsimp only [CPow, CMul, CDiv, CDivN]); first | omega | decide))
local macro_rules | `(tactic| walk_at "sz") => `(tactic| first | decide | exact Nat.le_of_lt (small1000 (by simp; done)) | exact Nat.le_of_lt (small1000 (by simp; omega)))
local macro_rules | `(tactic| walk_at "go1") => `(tactic| first
  | with_reducible refine g_seq ?_ | with_reducible refine g_asg ?_ | with_reducible refine g_name ?_ | with_reducible refine g_ret ?_ | with_reducible refine g_drop ?_ | with_reducible refine g_ifS ?_ | with_reducible refine g_next ?_ | with_reducible refine g_brk ?_ | with_reducible refine g_cnt ?_
  | ((with_reducible refine' g_var ?h ?_); (case h => exact rfl)) | with_reducible refine g_c ?_ | with_reducible refine g_op ?_ | with_reducible refine g_rI0 ?_ | with_reducible refine g_un ?_ | with_reducible refine g_rU ?_
  | ((with_reducible refine' g_eq ?h ?_); (case h => exact rfl)) | ((with_reducible refine' g_ne ?h ?_); (case h => exact rfl))
  | with_reducible refine g_test ?_ | with_reducible refine g_B ?_ | with_reducible refine g_k ?_ | with_reducible refine g_and ?_ | with_reducible refine g_or ?_ | with_reducible refine g_not ?_ | with_reducible refine g_yes ?_ | with_reducible refine g_andV ?_ | with_reducible refine g_orV ?_ | with_reducible refine g_notV ?_ | with_reducible refine g_ifE ?_
  | with_reducible refine g_nil ?_ | with_reducible refine g_cons ?_ | with_reducible refine g_cb ?_ | with_reducible refine g_call ?_ | with_reducible refine g_par ?_ | with_reducible refine g_par3 ?_ | with_reducible refine g_p2 ?_ | with_reducible refine g_p3 ?_
  | with_reducible refine g_for ?_ | with_reducible refine g_iList ?_ | with_reducible refine g_iTup ?_ | with_reducible refine g_rng1 ?_ | with_reducible refine g_rng2 ?_ | with_reducible refine g_lc ?_ | with_reducible refine g_bm ?_ | with_reducible refine g_bm0 ?_ | with_reducible refine g_revL ?_ | with_reducible refine g_sl ?_ | with_reducible refine g_np ?_ | with_reducible refine g_part ?_ | with_reducible refine g_sub ?_ | with_reducible refine g_pn ?_ | with_reducible refine g_pc ?_ | with_reducible refine g_disp ?_ | ((with_reducible refine' g_aug ?h ?_); (case h => exact rfl)) | with_reducible refine g_ipI ?_ | with_reducible refine g_vi ?_ | with_reducible refine g_if1 ?_ | with_reducible refine g_if0 ?_ | with_reducible refine g_ifn ?_ | with_reducible refine g_ifp ?_ | with_reducible refine g_if11 ?_ | with_reducible refine g_if00 ?_ | with_reducible refine g_id ?_ | with_reducible refine g_i1 ?_ | with_reducible refine g_s1 ?_ | with_reducible refine g_tfld ?_ | with_reducible refine g_gcons ?_ | with_reducible refine g_gnil ?_ | with_reducible refine g_meth ?_ | with_reducible refine g_make ?_ | with_reducible refine g_callS ?_ | with_reducible refine Up.g_mko ?_ | with_reducible refine Up.g_xf ?_ | with_reducible refine Up.g_gfld ?_ | with_reducible refine Own.g_makeS ?_ | with_reducible refine Own.g_methS ?_ | with_reducible refine g_dget ?_ | with_reducible refine g_dput ?_ | with_reducible refine g_chain ?_ | with_reducible refine g_lst ?_ | with_reducible refine g_tup ?_ | with_reducible refine g_if1 ?_ | with_reducible refine g_if0 ?_ | with_reducible refine g_if00 ?_ | with_reducible refine g_if11 ?_
  | ((with_reducible refine' g_rI ?h ?_); (case h => walk_at "side")) | with_reducible refine Or.inl ⟨_, rfl, ?_⟩ | with_reducible refine Or.inr ⟨_, rfl, ?_⟩)
local macro_rules | `(tactic| walk_at "go") => `(tactic| repeat walk_at "go1")

namespace My
open PySem L2 Pre
def topS (i : Nat) : Stmt := PySem.Challenge.pw_wordquarry_k01_shares.main.body.getD i (.Pass ⟨0, 0, 0, 0⟩)
abbrev s_BadTextU_initU : Stmt := inClass (topS 2) 0
abbrev N_BadTextU_initU : List Str := ["self", "line", "column"]
theorem sc_BadTextU_initU : Up.UpScope N_BadTextU_initU ["self", "line", "column"] (defScope s_BadTextU_initU) := ⟨rfl, rfl, rfl, by decide +kernel, rfl, by decide +kernel, by decide +kernel, by decide +kernel, rfl, rfl⟩
abbrev s_BadNumberU_initU : Stmt := inClass (topS 3) 0
abbrev N_BadNumberU_initU : List Str := ["self", "what", "number"]
theorem sc_BadNumberU_initU : Up.UpScope N_BadNumberU_initU ["self", "what", "number"] (defScope s_BadNumberU_initU) := ⟨rfl, rfl, rfl, by decide +kernel, rfl, by decide +kernel, by decide +kernel, by decide +kernel, rfl, rfl⟩
abbrev s_divisor_of : Stmt := topS 6
abbrev N_divisor_of : List Str := ["one", "two"]
theorem sc_divisor_of : FnScope N_divisor_of ["one", "two"] (defScope s_divisor_of) := ⟨rfl, rfl, rfl, by decide +kernel, rfl, by decide +kernel, by decide +kernel⟩
abbrev s_share_parts : Stmt := topS 7
abbrev N_share_parts : List Str := ["value"]
theorem sc_share_parts : FnScope N_share_parts ["value"] (defScope s_share_parts) := ⟨rfl, rfl, rfl, by decide +kernel, rfl, by decide +kernel, by decide +kernel⟩
abbrev s_ShareU_initU : Stmt := inClass (topS 8) 0
abbrev N_ShareU_initU : List Str := ["self", "top", "bottom", "by"]
theorem sc_ShareU_initU : FnScope N_ShareU_initU ["self", "top", "bottom"] (defScope s_ShareU_initU) := ⟨rfl, rfl, rfl, by decide +kernel, rfl, by decide +kernel, by decide +kernel⟩
abbrev s_Share_written : Stmt := inClass (topS 8) 1
abbrev N_Share_written : List Str := ["self"]
theorem sc_Share_written : FnScope N_Share_written ["self"] (defScope s_Share_written) := ⟨rfl, rfl, rfl, by decide +kernel, rfl, by decide +kernel, by decide +kernel⟩
abbrev s_ShareU_addU : Stmt := inClass (topS 8) 2
abbrev N_ShareU_addU : List Str := ["self", "other", "top", "bottom"]
theorem sc_ShareU_addU : FnScope N_ShareU_addU ["self", "other"] (defScope s_ShareU_addU) := ⟨rfl, rfl, rfl, by decide +kernel, rfl, by decide +kernel, by decide +kernel⟩
abbrev s_ShareU_subU : Stmt := inClass (topS 8) 3
abbrev N_ShareU_subU : List Str := ["self", "other", "top", "bottom"]
theorem sc_ShareU_subU : FnScope N_ShareU_subU ["self", "other"] (defScope s_ShareU_subU) := ⟨rfl, rfl, rfl, by decide +kernel, rfl, by decide +kernel, by decide +kernel⟩
abbrev s_ShareU_mulU : Stmt := inClass (topS 8) 4
abbrev N_ShareU_mulU : List Str := ["self", "other", "top", "bottom"]
theorem sc_ShareU_mulU : FnScope N_ShareU_mulU ["self", "other"] (defScope s_ShareU_mulU) := ⟨rfl, rfl, rfl, by decide +kernel, rfl, by decide +kernel, by decide +kernel⟩
abbrev s_Share_over : Stmt := inClass (topS 8) 5
abbrev N_Share_over : List Str := ["self", "other", "top", "bottom"]
theorem sc_Share_over : FnScope N_Share_over ["self", "other"] (defScope s_Share_over) := ⟨rfl, rfl, rfl, by decide +kernel, rfl, by decide +kernel, by decide +kernel⟩
abbrev s_Share_compared : Stmt := inClass (topS 8) 6
abbrev N_Share_compared : List Str := ["self", "other", "top", "bottom"]
theorem sc_Share_compared : FnScope N_Share_compared ["self", "other"] (defScope s_Share_compared) := ⟨rfl, rfl, rfl, by decide +kernel, rfl, by decide +kernel, by decide +kernel⟩
abbrev s_ShareU_eqU : Stmt := inClass (topS 8) 7
abbrev N_ShareU_eqU : List Str := ["self", "other"]
theorem sc_ShareU_eqU : FnScope N_ShareU_eqU ["self", "other"] (defScope s_ShareU_eqU) := ⟨rfl, rfl, rfl, by decide +kernel, rfl, by decide +kernel, by decide +kernel⟩
abbrev s_Share_under : Stmt := inClass (topS 8) 8
abbrev N_Share_under : List Str := ["self", "other"]
theorem sc_Share_under : FnScope N_Share_under ["self", "other"] (defScope s_Share_under) := ⟨rfl, rfl, rfl, by decide +kernel, rfl, by decide +kernel, by decide +kernel⟩
abbrev s_Share_at_most : Stmt := inClass (topS 8) 9
abbrev N_Share_at_most : List Str := ["self", "other"]
theorem sc_Share_at_most : FnScope N_Share_at_most ["self", "other"] (defScope s_Share_at_most) := ⟨rfl, rfl, rfl, by decide +kernel, rfl, by decide +kernel, by decide +kernel⟩
abbrev s_number_end : Stmt := topS 9
abbrev N_number_end : List Str := ["text", "at", "start"]
theorem sc_number_end : FnScope N_number_end ["text", "at"] (defScope s_number_end) := ⟨rfl, rfl, rfl, by decide +kernel, rfl, by decide +kernel, by decide +kernel⟩
abbrev s_share_of : Stmt := topS 10
abbrev N_share_of : List Str := ["text", "start", "at", "is_right", "end"]
theorem sc_share_of : FnScope N_share_of ["text"] (defScope s_share_of) := ⟨rfl, rfl, rfl, by decide +kernel, rfl, by decide +kernel, by decide +kernel⟩
abbrev s_L_pen : Stmt := topS 12
abbrev N_L_pen : List Str := ["_law_script", "_law_fold", "_law_cell"]
theorem sc_L_pen : FnScope N_L_pen ["_law_script"] (defScope s_L_pen) := ⟨rfl, rfl, rfl, by decide +kernel, rfl, by decide +kernel, by decide +kernel⟩
abbrev s_L_draw : Stmt := topS 13
abbrev N_L_draw : List Str := ["_law_pen_here", "_law_many", "_law_cell", "_law_digit", "_law_mixed"]
theorem sc_L_draw : FnScope N_L_draw ["_law_pen_here", "_law_many"] (defScope s_L_draw) := ⟨rfl, rfl, rfl, by decide +kernel, rfl, by decide +kernel, by decide +kernel⟩
abbrev s_L_pick : Stmt := topS 14
abbrev N_L_pick : List Str := ["_law_pen_here", "_law_some"]
theorem sc_L_pick : FnScope N_L_pick ["_law_pen_here", "_law_some"] (defScope s_L_pick) := ⟨rfl, rfl, rfl, by decide +kernel, rfl, by decide +kernel, by decide +kernel⟩
abbrev s_L_integer : Stmt := topS 15
abbrev N_L_integer : List Str := ["_law_pen_here", "_law_way"]
theorem sc_L_integer : FnScope N_L_integer ["_law_pen_here"] (defScope s_L_integer) := ⟨rfl, rfl, rfl, by decide +kernel, rfl, by decide +kernel, by decide +kernel⟩
abbrev s_L_is_share : Stmt := topS 16
abbrev N_L_is_share : List Str := ["_law_told", "_law_top", "_law_bottom", "_law_one", "_law_two"]
theorem sc_L_is_share : FnScope N_L_is_share ["_law_told", "_law_top", "_law_bottom"] (defScope s_L_is_share) := ⟨rfl, rfl, rfl, by decide +kernel, rfl, by decide +kernel, by decide +kernel⟩
abbrev s_L_wrong_column : Stmt := topS 17
abbrev N_L_wrong_column : List Str := ["_law_text", "_law_at", "_law_end"]
theorem sc_L_wrong_column : FnScope N_L_wrong_column ["_law_text"] (defScope s_L_wrong_column) := ⟨rfl, rfl, rfl, by decide +kernel, rfl, by decide +kernel, by decide +kernel⟩
abbrev s_L_told_column : Stmt := topS 18
abbrev N_L_told_column : List Str := ["_law_text", "e"]
theorem sc_L_told_column : FnScope N_L_told_column ["_law_text"] (defScope s_L_told_column) := ⟨rfl, rfl, rfl, by decide +kernel, rfl, by decide +kernel, by decide +kernel⟩
abbrev s_L_texts_right : Stmt := topS 19
abbrev N_L_texts_right : List Str := ["_law_pen_here", "_law_one", "_law_text", "_law_turn", "_law_at", "_law_sign"]
theorem sc_L_texts_right : FnScope N_L_texts_right ["_law_pen_here", "_law_one"] (defScope s_L_texts_right) := ⟨rfl, rfl, rfl, by decide +kernel, rfl, by decide +kernel, by decide +kernel⟩
abbrev s_law : Stmt := topS 20
abbrev N_law : List Str := ["_law_script", "_law_pen_here", "_law_turn", "_law_a", "_law_b", "_law_c", "_law_d", "_law_one", "_law_two", "_law_gap", "_law_told", "e", "_law_k"]
theorem sc_law : FnScope N_law ["_law_script"] (defScope s_law) := ⟨rfl, rfl, rfl, by decide +kernel, rfl, by decide +kernel, by decide +kernel⟩
structure Txt (mg : Str → Option Value) : Prop where
  c_FIGURES : GlV mg "FIGURES" (.str "0123456789")
  b_abs : mg "abs" = none
  b_bool : mg "bool" = none
  b_int : mg "int" = none
  b_isinstance : mg "isinstance" = none
  b_len : mg "len" = none
  b_list : mg "list" = none
  b_range : mg "range" = none
  b_str : mg "str" = none
  b_tuple : mg "tuple" = none
structure Cl_Share (K : PySem.W.Frag) (mg : Str → Option Value) (C : Addr) : Prop where
  ins : C8.InsC K C
  gl : mg "Share" = some (.ref C)
  tc : PySem.W.typeIn K (.ref C) = some (.type "type")
  na_top : NoAttr K C "top"
  na_bottom : NoAttr K C "bottom"
  sf : PySem.W.selfFirst K C = true
  ne : PySem.W.findIn K (.ref C) "__ne__" = some (some (.builtin "object.__ne__"))
  nb : PySem.W.kitOne K (.ref C) (.type "bool") = some false
  oi_Add : Own.OpI K C .Add
  oi_Sub : Own.OpI K C .Sub
  oi_Mult : Own.OpI K C .Mult
section
variable {P : Program} {w : World} {K : PySem.W.Frag} {mg : Str → Option Value} {base : Heap}
theorem ok_BadTextU_initU {f cc C : Addr} {kV doc pm cdv ct oc : Value} {an od : Option Addr} {osl : Array (Option Value)} (lk : K.lookup f = some ⟨oc, od, .func (Up.upFn "__init__" "BadText.__init__" (defArgs s_BadTextU_initU) (defBody s_BadTextU_initU) (defScope s_BadTextU_initU) kV doc pm an cdv ct cc), osl⟩) (hcd : PySem.W.codeIn K cdv "BadText.__init__" = true) (T : Up.UpC P K mg C cc cdv) (no : ∀ g ∈ (["line", "column"] : List Str), PySem.W.findIn K (.ref C) g = some none) :
    FnOk P w K mg base CX0 1 f (Up.upFn "__init__" "BadText.__init__" (defArgs s_BadTextU_initU) (defBody s_BadTextU_initU) (defScope s_BadTextU_initU) kV doc pm an cdv ct cc) ["self", "line", "column"] (Up.spXI C ["line", "column"]) := by
  refine Up.fn_up (N := N_BadTextU_initU) T sc_BadTextU_initU lk hcd rfl rfl rfl (fun vs H Q E h => ?_) (fun _ => rfl) (fun _ => rfl) (fun _ => rfl) (fun env h => by unfold interactive; rw [h]; rfl) (fun _ => rfl) (fun A outer s H vs Q E h => ?_)
  · obtain ⟨a, xs, rfl, hl, _⟩ := h
    rw [List.length_cons, hl]; rfl
  · obtain ⟨a, xs, rfl, hl, ea, k⟩ := h
    match xs, hl, k with
    | [x0, x1], hl, k =>
      refine ⟨_, _, a, (pa_cons (pv 1) (pa_cons (pv 2) pa_nil)), (pss_one (ps_asg (pe_tup (pa_cons (pv 1) (pa_cons (pv 2) pa_nil))) (pg_tup rfl (pgs_cons (Up.pg_ost (f := "line") (pv 0)) (pgs_cons (Up.pg_ost (f := "column") (pv 0)) pgs_nil))))), rfl, ea, ⟨x0, rfl, x1, rfl, (by show 2 ≤ 1000; decide), ea, ?_⟩⟩
      exact ⟨x0, rfl, x1, rfl, Up.xi_many T.oex rfl rfl (by decide) no ea k⟩
theorem ok_BadNumberU_initU {f cc C : Addr} {kV doc pm cdv ct oc : Value} {an od : Option Addr} {osl : Array (Option Value)} (lk : K.lookup f = some ⟨oc, od, .func (Up.upFn "__init__" "BadNumber.__init__" (defArgs s_BadNumberU_initU) (defBody s_BadNumberU_initU) (defScope s_BadNumberU_initU) kV doc pm an cdv ct cc), osl⟩) (hcd : PySem.W.codeIn K cdv "BadNumber.__init__" = true) (T : Up.UpC P K mg C cc cdv) (no : ∀ g ∈ (["what", "number"] : List Str), PySem.W.findIn K (.ref C) g = some none) :
    FnOk P w K mg base CX0 1 f (Up.upFn "__init__" "BadNumber.__init__" (defArgs s_BadNumberU_initU) (defBody s_BadNumberU_initU) (defScope s_BadNumberU_initU) kV doc pm an cdv ct cc) ["self", "what", "number"] (Up.spXI C ["what", "number"]) := by
  refine Up.fn_up (N := N_BadNumberU_initU) T sc_BadNumberU_initU lk hcd rfl rfl rfl (fun vs H Q E h => ?_) (fun _ => rfl) (fun _ => rfl) (fun _ => rfl) (fun env h => by unfold interactive; rw [h]; rfl) (fun _ => rfl) (fun A outer s H vs Q E h => ?_)
  · obtain ⟨a, xs, rfl, hl, _⟩ := h
    rw [List.length_cons, hl]; rfl
  · obtain ⟨a, xs, rfl, hl, ea, k⟩ := h
    match xs, hl, k with
    | [x0, x1], hl, k =>
      refine ⟨_, _, a, (pa_cons (pv 1) (pa_cons (pv 2) pa_nil)), (pss_one (ps_asg (pe_tup (pa_cons (pv 1) (pa_cons (pv 2) pa_nil))) (pg_tup rfl (pgs_cons (Up.pg_ost (f := "what") (pv 0)) (pgs_cons (Up.pg_ost (f := "number") (pv 0)) pgs_nil))))), rfl, ea, ⟨x0, rfl, x1, rfl, (by show 2 ≤ 1000; decide), ea, ?_⟩⟩
      exact ⟨x0, rfl, x1, rfl, Up.xi_many T.oex rfl rfl (by decide) no ea k⟩
end
section
variable {P : Program} {w : World} {K : PySem.W.Frag} {mg : Str → Option Value} {base : Heap}
theorem ok_L_draw {f : Addr} {fd : FuncData} (F : Fun K "_law_draw" "_law_draw" s_L_draw f fd) (T : Txt mg) : FnOk P w K mg base CX0 1 f fd ["_law_pen_here", "_law_many"] spDraw := by
  refine F.ok sc_L_draw (fun vs H Q E h => ?_) (fun cdv A outer s H vs Q E hr h => ?_)
  · obtain ⟨p, c, m, n, rfl, _⟩ := h
    rfl
  · obtain ⟨p, c, m, n, rfl, hpen, hn, hm1, hm2, k⟩ := h
    refine ⟨_, (pss_cons (ps_dput (hu_of hr) (pv 0) pe_str (pe_op op_add (pe_dget (hu_of hr) (pv 0) pe_str (fun _ _ => rfl)) pe_int) rfl)
      (Evl.pss_cut (ps_if (PW.pt (pw_and (pt_cmpR op_eq (pe_dget (hu_of hr) (pv 0) pe_str (fun _ _ => rfl)) pe_int (nomark _)) (pw_and1 (pt_cmpR op_lt (pe_dget (hu_of hr) (pv 0) pe_str (fun _ _ => rfl)) (pe_callB call_len_seq (by rfl) T.b_len PySem.boot_len (pa_cons (pe_dget (hu_of hr) (pv 0) pe_str (fun _ _ => rfl)) pa_nil)) (nomark _))))) (pss_cons (ps_set (i := 2) sc_L_draw.nd rfl (.inl rfl) (pe_ix ix_list (pe_dget (hu_of hr) (pv 0) pe_str (fun _ _ => rfl)) (pe_dget (hu_of hr) (pv 0) pe_str (fun _ _ => rfl)) (fun _ _ => rfl)))
      (pss_cons (ps_dput (hu_of hr) (pv 0) pe_str (pe_op op_add (pe_dget (hu_of hr) (pv 0) pe_str (fun _ _ => rfl)) pe_int) rfl)
      (pss_one (ps_if (pt_cmpR op_ge (pv 2) (pe_op op_pow pe_int pe_int) (nomark _)) (pss_one (ps_dput (hu_of hr) (pv 0) pe_str (pe_op op_sub (pv 2) (pe_op op_pow pe_int pe_int)) rfl)) (pss_one (ps_dput (hu_of hr) (pv 0) pe_str (pe_op op_mod (pe_callTy call_int1 (by rfl) T.b_int (by decide +kernel) (pa_cons (pe_op op_add (pe_op op_mul (pe_dget (hu_of hr) (pv 0) pe_str (fun _ _ => rfl)) pe_int) (pv 2)) pa_nil)) pe_int) rfl)))))) pss_nil)
      (pss_cons (ps_if (pt_cmpR op_gt (pe_dget (hu_of hr) (pv 0) pe_str (fun _ _ => rfl)) pe_int (nomark _)) (pss_cons (ps_set (i := 3) sc_L_draw.nd rfl (.inl rfl) (pe_op op_mod (pe_callTy call_int1 (by rfl) T.b_int (by decide +kernel) (pa_cons (pe_dget (hu_of hr) (pv 0) pe_str (fun _ _ => rfl)) pa_nil)) (pv 1)))
      (pss_cons (ps_dput (hu_of hr) (pv 0) pe_str (pe_op op_fdivW (pe_dget (hu_of hr) (pv 0) pe_str (fun _ _ => rfl)) (pv 1)) rfl)
      (pss_one (ps_ret (pv 3))))) pss_nil)
      (pss_cons (ps_set (i := 4) sc_L_draw.nd rfl (.inl rfl) (pe_op op_add (pe_op op_add (pe_dget (hu_of hr) (pv 0) pe_str (fun _ _ => rfl)) (pe_op op_mul (pe_dget (hu_of hr) (pv 0) pe_str (fun _ _ => rfl)) pe_int)) pe_int))
      (pss_one (ps_ret (pe_op op_mod (pe_op op_fdiv (pe_callTy call_int1 (by rfl) T.b_int (by decide +kernel) (pa_cons (pe_op op_mod (pe_op op_pow (pv 4) pe_int) pe_int) pa_nil)) pe_int) (pv 1)))))))), ?_⟩
    obtain ⟨cells, a, d, k0, f0, hp, hc, h0, h1, h2, h3, h4, h5⟩ := hpen
    have hcp : c ≠ p := ne_of hc hp (by intro z; cases z)
    walk_at "go"
    refine g_dg hp pen_count ?_
    walk_at "go"
    refine g_dp hp pen_len put_count ?_
    walk_at "go"
    refine g_cut (fun σ' H' => ∃ (a' d' f' : Int) (v : Option V), σ' = [some (.ref p), some (.int m), v, none, none] ∧ H' = upd H p (.dK (penK c a' d' (k0 + 1) f')) ∧ 0 ≤ a' ∧ 0 ≤ d' ∧ 0 ≤ f' ∧ f' < 2147483587) ?_ ?_
    · walk_at "go"
      refine g_dg upd_same pen_digits ?_
      walk_at "go"
      refine ite2 (fun ed => ?_) (fun ed => ?_)
      · walk_at "go"
        refine g_dg upd_same pen_at ?_
        walk_at "go"
        refine g_dg upd_same pen_cells ?_
        walk_at "go"
        have hc2 : ∀ o, (upd H p o) c = some (.lst (cells.map V.int)) := fun o => (upd_ne hcp).trans hc
        refine ⟨_, _, rfl, .inl (SqL.of (hc2 _)), ?_⟩
        walk_at "go"
        refine ite2 (fun ea => ?_) (fun ea => ?_)
        · walk_at "go"
          refine g_dg upd_same pen_cells ?_
          walk_at "go"
          refine g_dg upd_same pen_at ?_
          walk_at "go"
          have ea := of_decide_eq_true ea
          rw [List.length_map] at ea
          have hi : a.toNat < cells.length := by omega
          refine g_ixL (v := .int cells[a.toNat]) (SqL.of (hc2 _)) (atI_of (n := a.toNat) (by omega) (by rw [List.getElem?_map, List.getElem?_eq_getElem hi]; rfl)) ?_
          walk_at "go"
          refine g_dg upd_same pen_at ?_
          walk_at "go"
          refine g_dp upd_same pen_len put_at ?_
          walk_at "go"
          refine ite2 (fun e1 => ?_) (fun e1 => ?_)
          · walk_at "go"
            refine g_dp upd_same pen_len put_digits ?_
            have e1 := of_decide_eq_true e1
            refine ⟨a + 1, _, f0, _, rfl, by rw [upd_upd, upd_upd], by omega, ?_, h4, h5⟩
            exact Int.sub_nonneg.mpr e1
          · walk_at "go"
            refine g_dg upd_same pen_fold ?_
            walk_at "go"
            refine g_dp upd_same pen_len put_fold ?_
            refine ⟨a + 1, d, _, _, rfl, by rw [upd_upd, upd_upd], by omega, h1, Int.emod_nonneg _ (by decide), Int.emod_lt_of_pos _ (by decide)⟩
        · walk_at "go"
          exact ⟨a, d, f0, _, rfl, rfl, h0, h1, h4, h5⟩
      · walk_at "go"
        exact ⟨a, d, f0, _, rfl, rfl, h0, h1, h4, h5⟩
    · rintro σ' H' ⟨a', d', f', v, rfl, rfl, h0', h1', h4', h5'⟩
      have hc2 : ∀ o, (upd H p o) c = some (.lst (cells.map V.int)) := fun o => (upd_ne hcp).trans hc
      walk_at "go"
      refine g_dg upd_same pen_digits ?_
      walk_at "go"
      refine ite2 (fun ed => ?_) (fun ed => ?_)
      · walk_at "go"
        refine g_dg upd_same pen_digits ?_
        walk_at "go"
        refine g_dg upd_same pen_digits ?_
        walk_at "go"
        refine g_rI (wide_div (b := 64) (by omega) (by omega) (by decide) (by decide)) ?_
        walk_at "go"
        refine g_dp upd_same pen_len put_digits ?_
        walk_at "go"
        refine k _ _ (Int.emod_nonneg _ (by omega)) (Int.emod_lt_of_pos _ (by omega)) ?_ ?_
        · rw [upd_upd]; exact Kp.put
        · rw [upd_upd]
          exact ⟨cells, a', _, _, f', upd_same, hc2 _, h0', Int.ediv_nonneg h1' (by omega), by omega, by omega, h4', h5'⟩
      · walk_at "go"
        refine g_dg upd_same pen_fold ?_
        walk_at "go"
        refine g_dg upd_same pen_count ?_
        walk_at "go"
        refine k _ _ (Int.emod_nonneg _ (by omega)) (Int.emod_lt_of_pos _ (by omega)) Kp.put ?_
        exact ⟨cells, a', d', _, f', upd_same, hc2 _, h0', h1', by omega, by omega, h4', h5'⟩
theorem ok_L_pick {f : Addr} {fd : FuncData} (F : Fun K "_law_pick" "_law_pick" s_L_pick f fd) (T : Txt mg) (C_L_draw : Cal P w K mg base 1 "_law_draw" spDraw) : FnOk P w K mg base CX0 2 f fd ["_law_pen_here", "_law_some"] (spPick K) := by
  refine F.ok sc_L_pick (fun vs H Q E h => ?_) (fun cdv A outer s H vs Q E hr h => ?_)
  · obtain ⟨p, c, z, m, n, g, rfl, _⟩ := h
    rfl
  · obtain ⟨p, c, z, m, n, g, rfl, hpen, hn, hz, hk, h1, h2, k⟩ := h
    refine ⟨_, (pss_one (ps_ret (pe_ix ix_seq (pv 1) (pcal C_L_draw hr (by decide) (by rfl) (pa_cons (pv 0) (pa_cons (pe_callB call_len (by rfl) T.b_len PySem.boot_len (pa_cons (pv 1) pa_nil)) pa_nil))) (fun _ _ => rfl)))), ?_⟩
    walk_at "go"
    refine ⟨_, _, rfl, hk.len, ?_⟩
    walk_at "go"
    refine ⟨p, c, (m : Int), n, rfl, hpen, hn, by omega, by omega, fun r H' hr0 hr1 hK hP => ?_⟩
    exact (hk.keep hz hK).item (i := r.toNat) (by omega) (by omega) (k _ _ (by omega) hK hP)
theorem ok_L_pen {f : Addr} {fd : FuncData} (F : Fun K "_law_pen" "_law_pen" s_L_pen f fd) (T : Txt mg) : FnOk P w K mg base CX0 1 f fd ["_law_script"] (spPen K) := by
  refine F.ok sc_L_pen (fun vs H Q E h => ?_) (fun cdv A outer s H vs Q E hr h => ?_)
  · obtain ⟨a, ns, rfl, _⟩ := h
    rfl
  · obtain ⟨a, ns, rfl, hS, k⟩ := h
    refine ⟨_, (pss_cons (ps_set (i := 1) sc_L_pen.nd rfl (.inl rfl) pe_int)
      (pss_cons (ps_for PassesOwn.never rfl (pi_list (pv 0)) (pg_name (i := 2) sc_L_pen.nd rfl (.inl rfl))
        (pss_one (ps_set (i := 1) sc_L_pen.nd rfl (.inl rfl) (pe_op op_mod (pe_callTy call_int1 (by rfl) T.b_int (by decide +kernel) (pa_cons (pe_op op_add (pe_op op_mul (pv 1) pe_int) (pv 2)) pa_nil)) pe_int))))
      (pss_one (ps_ret (pe_disp (pps_cons pe_str (pe_callTy call_list_of (by rfl) T.b_list (by decide +kernel) (pa_cons (pv 0) pa_nil)) (pps_cons pe_str pe_int (pps_cons pe_str pe_int (pps_cons pe_str pe_int (pps_cons pe_str (pv 1) pps_nil))))) rfl rfl (by intro z; cases z) (by decide)))))), ?_⟩
    walk_at "go"
    refine ⟨a, rfl, ⟨_, hS⟩, for_list (K := K) (a := a) (xs := ns.map V.int) (fun i σ H' => ∃ (f0 : Int) (v : Option V), σ = [some (.ref a), some (.int f0), v] ∧ H' = H ∧ 0 ≤ f0 ∧ f0 < 1000000007)
      ⟨0, none, rfl, rfl, by decide, by decide⟩ (fun i σ H' _ ⟨_, _, _, e, _⟩ => by rw [e]; exact hS) ?_ ?_⟩
    · rintro i x σ H' hi ⟨f0, v, rfl, rfl, h0, h1⟩
      obtain ⟨u, rfl⟩ : ∃ u, x = V.int u := by
        rw [List.getElem?_map] at hi
        obtain ⟨u, _, e⟩ := Option.map_eq_some_iff.mp hi
        exact ⟨u, e.symm⟩
      walk_at "go"
      exact ⟨_, _, rfl, rfl, Int.emod_nonneg _ (by decide), Int.emod_lt_of_pos _ (by decide)⟩
    · rintro σ H' ⟨f0, v, rfl, rfl, h0, h1⟩
      walk_at "go"
      intro p hp
      walk_at "go"
      refine ⟨_, _, rfl, .inl ((Same.new hp).seq hS), fun c hc => ?_⟩
      walk_at "go"
      have hcp : c ≠ p := fun z => by rw [z, upd_same] at hc; cases hc
      refine ⟨by rw [upd_ne hcp.symm]; exact upd_same, [(ks "cells", .ref c), (ks "at", .int 0), (ks "digits", .int 0), (ks "count", .int 0), (ks "fold", .int f0)], rfl, by show 5 ≤ 15; decide, ?_⟩
      refine k p c _ hp (by rw [upd_ne hcp] at hc; exact hc) (fun b o e => ?_) ⟨ns, 0, 0, 0, f0, ?_, ?_, by decide, by decide, by decide, by decide, h0, by omega⟩
      · have nbp : b ≠ p := ne_of_none e hp
        have nbc : b ≠ c := fun z => by
          rw [z] at e
          rw [upd_ne hcp, e] at hc
          cases hc
        rw [upd_ne nbp, upd_ne nbc, upd_ne nbp]
        exact e
      · rw [upd_same, pen_merge]
      · rw [upd_ne hcp, upd_same]

end
end My

/-! ### texts as lists of code points -/
namespace Tx
open PySem SX PySem.Builtin PySem.Builtin.Str L2 PyProof.Rows
theorem idx_lo {h : Option Int} {n : Nat} {i : Int} (e : (n : Int) ≤ i) : strSliceIndices (some i) h 1 n = strSliceIndices (some (n : Int)) h 1 n := by
  have h0 : ¬ i < 0 := by omega
  have h1 : ¬ ((n : Int) < 0) := by omega
  have h2 : (1 : Int) > 0 := by decide
  simp only [strSliceIndices, h0, h1, h2, if_false, if_true, Int.min_eq_right e, Int.min_self]
theorem slice_le {a : List Nat} {i j : Int} (h0 : 0 ≤ i) (h1 : i ≤ j) (h2 : j ≤ (a.length : Int)) : Txt.slice (S a) (some i) (some j) = S ((a.drop i.toNat).take (j - i).toNat) :=
  (beq_iff_eq.mp (PyProof.Rows.slice_closesL (x := S a) h0 h1 (by rw [S_len]; exact h2))).trans (TL.ext_tl rfl)
theorem slice_hi {a : List Nat} {l : Option Int} {j : Int} (h : (a.length : Int) ≤ j) : Txt.slice (S a) l (some j) = Txt.slice (S a) l (some (a.length : Int)) := by
  unfold Txt.slice
  rw [S_len, idx_hi h]
theorem slice_lo {a : List Nat} {l : Option Int} {i : Int} (h : (a.length : Int) ≤ i) : Txt.slice (S a) (some i) l = Txt.slice (S a) (some (a.length : Int)) l := by
  unfold Txt.slice
  rw [S_len, idx_lo h]
/-- a[i:j], i and j not below 0, i not above j -/
theorem slice_mid {a : List Nat} {i j : Int} (hi : 0 ≤ i) (hj : i ≤ j) : Txt.slice (S a) (some i) (some j) = S ((a.drop i.toNat).take (j - i).toNat) := by
  by_cases h1 : j ≤ (a.length : Int)
  · exact slice_le hi hj h1
  · rw [slice_hi (by omega)]
    by_cases h2 : i ≤ (a.length : Int)
    · rw [slice_le hi h2 (Int.le_refl _)]
      refine congrArg S ?_
      rw [List.take_of_length_le (by rw [List.length_drop]; omega), List.take_of_length_le (by rw [List.length_drop]; omega)]
    · rw [slice_lo (by omega), slice_le (by omega) (Int.le_refl _) (Int.le_refl _)]
      refine congrArg S ?_
      rw [List.drop_eq_nil_of_le (by omega), List.drop_eq_nil_of_le (by omega), List.take_nil, List.take_nil]
/-- a[i:i+1] -/
theorem slice_one {a : List Nat} {i : Nat} {x y : Int} (ex : x = (i : Int)) (ey : y = (i : Int) + 1) : Txt.slice (S a) (some x) (some y) = S ((a.drop i).take 1) := by
  subst ex ey
  rw [slice_mid (by omega) (by omega)]
  refine congrArg S ?_
  rw [show ((i : Int) + 1 - (i : Int)).toNat = 1 by omega, Int.toNat_natCast]
def dig (c : Nat) : Bool := decide (48 ≤ c) && decide (c ≤ 57)
theorem dig_iff {c : Nat} : dig c = true ↔ 48 ≤ c ∧ c ≤ 57 := by
  unfold dig
  rw [Bool.and_eq_true, decide_eq_true_eq, decide_eq_true_eq]
theorem mem_figs (c : Nat) : decide (c ∈ ("0123456789" : Str).cps.toList) = dig c := by
  have e : ("0123456789" : Str).cps.toList = [48, 49, 50, 51, 52, 53, 54, 55, 56, 57] := by decide +kernel
  rw [e]
  by_cases h : dig c = true
  · rw [h]
    have := dig_iff.mp h
    refine decide_eq_true ?_
    have h2 : c = 48 ∨ c = 49 ∨ c = 50 ∨ c = 51 ∨ c = 52 ∨ c = 53 ∨ c = 54 ∨ c = 55 ∨ c = 56 ∨ c = 57 := by omega
    rcases h2 with h | h | h | h | h | h | h | h | h | h <;> subst h <;> decide
  · rw [Bool.not_eq_true] at h
    rw [h]
    refine decide_eq_false fun z => ?_
    have h2 : dig c = true := by
      simp only [List.mem_cons, List.not_mem_nil, or_false] at z
      rcases z with h | h | h | h | h | h | h | h | h | h <;> subst h <;> decide
    rw [h] at h2
    cases h2
theorem in_figs (c : Nat) : (!(occurrences ("0123456789" : Str) (S [c]) 0 ("0123456789" : Str).length 1).isEmpty) = dig c := by
  have e : ("0123456789" : Str) = S [48, 49, 50, 51, 52, 53, 54, 55, 56, 57] := by decide +kernel
  rw [← mem_figs, e, in_one]
theorem tw_len {p : Nat → Bool} : ∀ {i : Nat} {r : List Nat}, (∀ j, j < i → ∃ c, r[j]? = some c ∧ p c = true) → (∀ c, r[i]? = some c → p c = false) → (r.takeWhile p).length = i
  | 0, [], _, _ => rfl
  | 0, c :: r, _, h => by
    rw [List.takeWhile_cons, if_neg (by rw [h c rfl]; exact Bool.false_ne_true)]
    rfl
  | i + 1, [], h, _ => by
    obtain ⟨c, e, _⟩ := h 0 (Nat.succ_pos _)
    cases e
  | i + 1, c :: r, h, h2 => by
    obtain ⟨d, e, pd⟩ := h 0 (Nat.succ_pos _)
    cases e
    rw [List.takeWhile_cons, if_pos pd, List.length_cons, tw_len (i := i) (r := r) (fun j hj => h (j + 1) (Nat.succ_lt_succ hj)) (fun d e => h2 d e)]
theorem v_str {a b : List Nat} : (V.str (S a) = V.str (S b)) ↔ a = b := ⟨fun h => S_inj (V.str.inj h), fun h => by rw [h]⟩
theorem d_str {a b : List Nat} : decide (V.str (S a) = V.str (S b)) = decide (a = b) := decide_eq_decide.mpr v_str
theorem d_str1 {a b : Nat} : decide (V.str (S [a]) = V.str (S [b])) = decide (a = b) := by
  rw [d_str]
  exact decide_eq_decide.mpr ⟨fun h => (List.cons.inj h).1, fun h => by rw [h]⟩
theorem digitsVal_lt : ∀ (n : Nat) (cs : List Nat), cs.length = n → NumText.AllDigits cs → NumText.digitsVal cs < 10 ^ cs.length
  | 0, [], _, _ => by decide
  | n + 1, cs, hl, h => by
    obtain ⟨r, c, rfl⟩ : ∃ r c, cs = r ++ [c] := ⟨cs.dropLast, cs.getLast (by intro e; rw [e] at hl; cases hl), (List.dropLast_concat_getLast _).symm⟩
    have hl2 : r.length = n := by rw [List.length_append] at hl; exact Nat.succ.inj hl
    have ih := digitsVal_lt n r hl2 fun c hc => h c (List.mem_append_left _ hc)
    have hc := h c (List.mem_append_right _ (List.mem_singleton.mpr rfl))
    rw [NumText.digitsVal_snoc, List.length_append, List.length_singleton, Nat.pow_succ]
    omega
theorem digs_all {cs : List Nat} (h : ∀ c ∈ cs, dig c = true) : NumText.AllDigits cs := fun c hc => dig_iff.mp (h c hc)
/-- the signs of a text, one by one -/
def sgs (l : List Nat) : List V := l.map fun c => V.str (S [c])
theorem vals_sgs : ∀ {cs : List Nat} {us : List Value}, us.length = cs.length → (∀ (j : Nat) (v : Value), us[j]? = some v → ∃ c u, cs[j]? = some c ∧ v = Value.str ⟨#[c]⟩ u) → Vals (sgs cs) us
  | [], [], _, _ => .nil
  | [], _ :: _, h, _ => by simp at h
  | _ :: _, [], h, _ => by simp at h
  | c :: cs, v :: us, h, k => by
    obtain ⟨d, u, e1, e2⟩ := k 0 v rfl
    cases e1
    exact .cons ⟨u, e2⟩ (vals_sgs (by simpa using h) fun j v e => k (j + 1) v e)
theorem call_tupS {X : Cx} (hc : X.calm = true) : CallR X (.type "tuple") (fun xs H Q => ∃ z : Str, xs = [.str z] ∧ z.length ≤ sizeLine ∧ ∀ p, H p = none → Q (.ref p) (upd H p (.tup (sgs z.cps.toList)))) := by
  intro pins s σ H xs us Q I r h
  obtain ⟨z, rfl, hz, q⟩ := h
  obtain ⟨u, rfl, t, rfl⟩ := vals1 r
  refine call_tuple_str (I.ok.hd hc) z t (fun h' tk acc kp it => ?_) hz
  have I1 : Inv X pins σ H { s with heap := h', toks := tk } := I.kept (t' := tk) kp
  have hl : (sgs z.cps.toList).length = z.cps.size := by unfold sgs; rw [List.length_map, Array.length_toList]
  have rv : Vals (sgs z.cps.toList) acc.toList := vals_sgs (by rw [Array.length_toList, Array.length_toList]; exact it.1) fun j v e => by
    obtain ⟨c, u, e1, e2⟩ := it.2 j v (by rw [← Array.getElem?_toList]; exact e)
    exact ⟨c, u, by rw [Array.getElem?_toList]; exact e1, e2⟩
  have I2 : Inv X pins σ (upd H h'.objs.size (.tup (sgs z.cps.toList))) { s with heap := h'.push { cls := .type "tuple", data := .seq acc }, toks := tk } :=
    I1.laid (t' := tk) (fun b o e => Heap.get?_push_of_some _ e) (Nat.le_refl _) (show ObjOk X.prog X.w _ _ _ (.tup (sgs z.cps.toList)) from ⟨by rw [hl]; exact hz, acc.toList, rv, by
      have := IsTup.new h' acc
      simpa using this⟩)
  exact ⟨.ref h'.objs.size, _, I2, rfl, q _ (I1.hok.fresh (Nat.le_refl _))⟩
theorem tl_S (l : List Nat) : (S l).cps.toList = l := rfl
/-- the text of a whole number -/
def ztx (i : Int) : List Nat := if i < 0 then 45 :: TL.numL i.natAbs else TL.numL i.natAbs
theorem int_tx (i : Int) : Str.ofString (toString i) = S (ztx i) := by
  unfold ztx
  by_cases h : i < 0
  · rw [if_pos h]
    refine TL.ext_tl ?_
    show (Str.ofString (toString i)).cps.toList = 45 :: TL.numL i.natAbs
    rw [PyProof.Rows.toString_neg h, PyProof.Rows.signs_ofString, String.toList_append, List.map_append]
    have e : (0 - i) = ((i.natAbs : Nat) : Int) := by omega
    have e2 : (toString ((i.natAbs : Nat) : Int)).toList.map Char.toNat = TL.numL i.natAbs := (PyProof.Rows.signs_ofString _).symm.trans (TL.tl_num i.natAbs)
    rw [e, e2]
    rfl
  · rw [if_neg h]
    have e : i = ((i.natAbs : Nat) : Int) := by omega
    conv => lhs; rw [e]
    exact num_S _
theorem fold_rep (l : List Nat) : ∀ (m : Nat) (a : List Nat), (List.replicate m (S l).cps).foldl (· ++ ·) a.toArray = (a ++ (List.replicate m l).flatten).toArray
  | 0, a => by simp
  | m + 1, a => by
    rw [List.replicate_succ, List.foldl_cons, List.replicate_succ, List.flatten_cons]
    have e : a.toArray ++ (S l).cps = (a ++ l).toArray := by simp [S]
    rw [e, fold_rep l m (a ++ l), List.append_assoc]
/-- text * whole number -/
theorem op_rep_str {X : Cx} : OpR X (binaryOp .Mult) (fun x y H Q => ∃ l k, x = .str (S l) ∧ y = .int k ∧ -(2 ^ 62) ≤ k ∧ k ≤ 100000 ∧ l.length ≤ 100000 ∧ l.length * k.toNat ≤ 1000000 ∧ Q (.str (S (List.replicate k.toNat l).flatten)) H) := by
  intro pins s σ H x y v u Q I rx ry h
  obtain ⟨l, k, rfl, rfl, k0, k1, hl, hlk, q⟩ := h
  obtain ⟨t, rfl⟩ := rx
  obtain ⟨t', rfl⟩ := ry
  refine PySem.P.mul_str (by rw [decide_eq_false (by omega), decide_eq_false (by omega)]; rfl) (fun h1 h2 => ?_) (fun h1 h2 => ?_) ?_
  · rw [S_len]
    have h1 : 1 ≤ k := by omega
    have : (100000 : Int) ≤ (2 ^ 63 - 1) / k := Int.le_ediv_of_mul_le (by omega) (by omega)
    omega
  · rw [S_len]
    refine decide_eq_false ?_
    have : (1000000 : Nat) ≤ sizeLine := by decide
    omega
  · by_cases h1 : k < 1
    · rw [if_pos h1]
      have e : k.toNat = 0 := by omega
      rw [e] at q
      exact ⟨by decide, .str (S []), H, I.tok _, ⟨_, rfl⟩, q⟩
    · rw [if_neg h1]
      by_cases h2 : (k == 1 || (S l).length == 0) = true
      · rw [if_pos h2]
        refine ⟨.str (S l), H, I, ⟨_, rfl⟩, ?_⟩
        have e : (List.replicate k.toNat l).flatten = l := by
          rcases Bool.or_eq_true_iff.mp h2 with h | h
          · have : k = 1 := eq_of_beq h
            subst this
            simp
          · have : l.length = 0 := by rw [← S_len]; exact eq_of_beq h
            have : l = [] := List.length_eq_zero_iff.mp this
            subst this
            simp
        rw [e] at q
        exact q
      · rw [if_neg h2]
        have e := fold_rep l k.toNat []
        rw [List.nil_append] at e
        rw [show (#[] : Array Nat) = ([] : List Nat).toArray from rfl, e]
        refine ⟨?_, .str (S (List.replicate k.toNat l).flatten), H, I.tok _, ⟨_, rfl⟩, q⟩
        show (S (List.replicate k.toNat l).flatten).length ≤ sizeLine
        rw [S_len]
        have : (1000000 : Nat) ≤ sizeLine := by decide
        have e2 : (List.replicate k.toNat l).flatten.length = k.toNat * l.length := by simp
        rw [e2, Nat.mul_comm]
        omega
end Tx

namespace My
open PySem L2 Pre Sh
/-- a share at a -/
def ShAt (C : Addr) (H : Hp) (a : Addr) (t b : Int) : Prop := ∃ dx, H a = some (.ins C dx [("top", .int t), ("bottom", .int b)])
theorem ShAt.keep {C : Addr} {H H' : Hp} {a : Addr} {t b : Int} (h : ShAt C H a t b) (e : Same H H') : ShAt C H' a t b := by
  obtain ⟨dx, h⟩ := h
  exact ⟨dx, e _ _ h⟩
/-- a share or a whole number -/
def Nm (C : Addr) (H : Hp) (v : V) (t b : Int) : Prop := (∃ a, v = .ref a ∧ ShAt C H a t b) ∨ (v = .int t ∧ b = 1)
theorem Nm.keep {C : Addr} {H H' : Hp} {v : V} {t b : Int} (h : Nm C H v t b) (e : Same H H') : Nm C H' v t b := by
  rcases h with ⟨a, h1, h2⟩ | h
  · exact .inl ⟨a, h1, h2.keep e⟩
  · exact .inr h
/-- small: below 2^n -/
abbrev Bd (n : Nat) (x : Int) : Prop := x.natAbs < 2 ^ n
def spDiv : Sp := fun vs H Q _ => ∃ x y : Int, vs = [.int x, .int y] ∧ Q (.int (Int.gcd x y : Int)) H
def spParts (C : Addr) : Sp := fun vs H Q _ => ∃ (v : V) (t b : Int), vs = [v] ∧ Nm C H v t b ∧ ∀ p H', H p = none → Same H H' → H' p = some (.tup [.int t, .int b]) → Q (.ref p) H'
def spInit (C CN : Addr) : Sp := fun vs H Q E => ∃ (a dx : Addr) (x y : Int), vs = [.ref a, .int x, .int y] ∧ H a = some (.ins C dx []) ∧ Bd 1000 x ∧ Bd 1000 y ∧
  (y = 0 → ∀ d H', H d = none → Same H H' → H' d = some (.xd (Up.fldsR ["what", "number"] [.str "bottom", .int y])) → E (.ref CN) (some d) H') ∧
  (y ≠ 0 → ∀ t b H', Lst t b x y → Kp a H H' → H' a = some (.ins C dx [("top", .int t), ("bottom", .int b)]) → Q .non H')
theorem op_fdivNW {X : Cx} : OpR X (binaryOp .FloorDiv) (rI (fun _ j => j ≠ 0 ∧ j.natAbs.log2 < 9000) fun i j => .int (i.fdiv j)) := opI fun _ _ _ _ _ _ _ hc q => PyProof.Rows.floordiv_int hc.1 q (.inl (PyProof.noPylong_of_log2 hc.2))
theorem log2_gcd {x y : Int} {n : Nat} (h0 : 0 < n) (hy : y ≠ 0) (h : Bd n y) (hn : n ≤ 9000) : (by_ x y).natAbs.log2 < 9000 := by
  have h1 : (by_ x y).natAbs ≤ y.natAbs := by
    have h2 : Int.gcd x y ≤ y.natAbs := Nat.le_of_dvd (by omega) (by rw [Int.gcd]; exact Nat.gcd_dvd_right _ _)
    unfold by_
    split <;> omega
  exact Nat.lt_of_lt_of_le (PySem.Flt.log2_lt_of h0 (Nat.lt_of_le_of_lt h1 h)) hn
theorem tb_ne : ¬ (("top" : Str) = "bottom") := by decide +kernel
theorem putF2 {t b : V} : putF "bottom" b [(("top" : Str), t)] = [(("top" : Str), t), (("bottom" : Str), b)] := by
  show (if ("top" : Str) = "bottom" then _ else _) = _
  rw [if_neg tb_ne]
  rfl
theorem look_top {t b : V} : List.lookup ("top" : Str) [(("top" : Str), t), (("bottom" : Str), b)] = some t := by simp [List.lookup]
theorem look_bot {t b : V} : List.lookup ("bottom" : Str) [(("top" : Str), t), (("bottom" : Str), b)] = some b := by
  have h : (("bottom" : Str) == "top") = false := beq_eq_false_iff_ne.mpr (Ne.symm tb_ne)
  simp [List.lookup, h]
/-- a field of a share -/
theorem g_top {K : PySem.W.Frag} {mg : Str → Option Value} {C : Addr} (T : Cl_Share K mg C) {H : Hp} {a : Addr} {t b : Int} {R : V → Prop} (h : ShAt C H a t b) (q : R (.int t)) :
    ∃ a' C' dx fs v, V.ref a = .ref a' ∧ H a' = some (.ins C' dx fs) ∧ Cls K C' ∧ NoAttr K C' "top" ∧ fs.lookup ("top" : Str) = some v ∧ R v := by
  obtain ⟨dx, h⟩ := h
  exact ⟨a, C, dx, _, _, rfl, h, T.ins.cl, T.na_top, look_top, q⟩
theorem g_bot {K : PySem.W.Frag} {mg : Str → Option Value} {C : Addr} (T : Cl_Share K mg C) {H : Hp} {a : Addr} {t b : Int} {R : V → Prop} (h : ShAt C H a t b) (q : R (.int b)) :
    ∃ a' C' dx fs v, V.ref a = .ref a' ∧ H a' = some (.ins C' dx fs) ∧ Cls K C' ∧ NoAttr K C' "bottom" ∧ fs.lookup ("bottom" : Str) = some v ∧ R v := by
  obtain ⟨dx, h⟩ := h
  exact ⟨a, C, dx, _, _, rfl, h, T.ins.cl, T.na_bottom, look_bot, q⟩
theorem ty_share {K : PySem.W.Frag} {mg : Str → Option Value} {C : Addr} (T : Cl_Share K mg C) {H : Hp} {a : Addr} {t b : Int} (h : ShAt C H a t b) : TyX K H (.ref a) (.ref C) := by
  obtain ⟨dx, h⟩ := h
  exact .base (.ins h T.ins.cl T.ins.ha T.ins.hn T.ins.htk T.ins.hm)
theorem kit_int {K : PySem.W.Frag} {mg : Str → Option Value} {C : Addr} (T : Cl_Share K mg C) : PySem.W.kitOne K (.type "int") (.ref C) = some false := Own.kit_nothing (l := ["int", "object"]) T.ins.cl.hd T.tc (by decide +kernel)
theorem kit_str {K : PySem.W.Frag} {mg : Str → Option Value} {C : Addr} (T : Cl_Share K mg C) : PySem.W.kitOne K (.type "str") (.ref C) = some false := Own.kit_nothing (l := ["str", "object"]) T.ins.cl.hd T.tc (by decide +kernel)
theorem kit_bool {K : PySem.W.Frag} {mg : Str → Option Value} {C : Addr} (T : Cl_Share K mg C) : PySem.W.kitOne K (.type "bool") (.ref C) = some false := Own.kit_nothing (l := ["bool", "int", "object"]) T.ins.cl.hd T.tc (by decide +kernel)
section
variable {P : Program} {w : World} {K : PySem.W.Frag} {mg : Str → Option Value} {base : Heap} {C_Share C_BadNumber C_BadText : Addr}
theorem ok_divisor_of {f : Addr} {fd : FuncData} (F : Fun K "divisor_of" "divisor_of" s_divisor_of f fd) (T : Txt mg) : FnOk P w K mg base CX0 1 f fd ["one", "two"] spDiv := by
  refine F.ok sc_divisor_of (fun vs H Q E h => ?_) (fun cdv A outer s H vs Q E hr h => ?_)
  · obtain ⟨x, y, rfl, _⟩ := h
    rfl
  · obtain ⟨x, y, rfl, k⟩ := h
    refine ⟨_, (pss_cons (ps_par (i := 0) (j := 1) (by rfl) sc_divisor_of.nd rfl rfl (by decide) rfl rfl (pa_cons (pe_callB call_abs (by rfl) T.b_abs (by decide +kernel) (pa_cons (pv 0) pa_nil)) (pa_cons (pe_callB call_abs (by rfl) T.b_abs (by decide +kernel) (pa_cons (pv 1) pa_nil)) pa_nil)) (by rfl))
      (pss_cons (ps_while PassesOwn.never (pt_cmpR op_ne (pv 1) pe_int (nomark _)) (pss_one (ps_par (i := 0) (j := 1) (by rfl) sc_divisor_of.nd rfl rfl (by decide) rfl rfl (pa_cons (pv 1) (pa_cons (pe_op op_mod (pv 0) (pv 1)) pa_nil)) (by rfl))))
      (pss_one (ps_ret (pv 0))))), ?_⟩
    walk_at "go"
    rw [show (if x < 0 then -x else x) = (x.natAbs : Int) by omega, show (if y < 0 then -y else y) = (y.natAbs : Int) by omega]
    refine g_while (fun m σ H' => ∃ u v : Nat, m = v ∧ σ = [some (.int u), some (.int v)] ∧ H' = H ∧ Nat.gcd u v = Int.gcd x y) y.natAbs ⟨_, _, rfl, rfl, rfl, rfl⟩ ?_
    rintro m σ H' ⟨u, v, rfl, rfl, rfl, hg⟩
    walk_at "go"
    by_cases hv : m = 0
    · subst hv
      rw [show decide (V.int ((0 : Nat) : Int) = V.int 0) = true from decide_eq_true rfl]
      refine g_if00 ?_
      walk_at "go"
      rw [Nat.gcd_zero_right] at hg
      rw [hg]
      exact k
    · rw [show decide (V.int (m : Int) = V.int 0) = false from decide_eq_false fun z => hv (by have := V.int.inj z; omega)]
      refine g_if11 ?_
      refine ⟨fun σ' H2 => ∃ m', m' < m ∧ ∃ u v : Nat, m' = v ∧ σ' = [some (.int u), some (.int v)] ∧ H2 = H' ∧ Nat.gcd u v = Int.gcd x y, fun σ' H2 h => h, ?_⟩
      walk_at "go"
      exact ⟨u % m, Nat.mod_lt _ (by omega), m, u % m, rfl, rfl, rfl, by rw [← hg, Nat.gcd_comm m, ← Nat.gcd_rec, Nat.gcd_comm]⟩
theorem ok_share_parts {f : Addr} {fd : FuncData} (F : Fun K "share_parts" "share_parts" s_share_parts f fd) (T : Txt mg) (T_Share : Cl_Share K mg C_Share) : FnOk P w K mg base CX0 1 f fd ["value"] (spParts C_Share) := by
  refine F.ok sc_share_parts (fun vs H Q E h => ?_) (fun cdv A outer s H vs Q E hr h => ?_)
  · obtain ⟨v, t, b, rfl, _⟩ := h
    rfl
  · obtain ⟨v, t, b, rfl, hv, k⟩ := h
    refine ⟨_, (pss_one (ps_ret (pe_ifExp (pt_val (pe_callB call_isi (by rfl) T.b_isinstance (by decide +kernel) (pa_cons (pv 0) (pa_cons (pgl (v := .ref C_Share) (by rfl) ⟨_, T_Share.gl, rfl⟩) pa_nil)))) (pe_tup (pa_cons (pe_fld (pv 0) rfl) (pa_cons (pe_fld (pv 0) rfl) pa_nil))) (pe_tup (pa_cons (pv 0) (pa_cons pe_int pa_nil)))))), ?_⟩
    walk_at "go"
    rcases hv with ⟨a, rfl, hs⟩ | ⟨rfl, rfl⟩
    · refine ⟨_, _, _, _, true, rfl, .own C_Share, ty_share T_Share hs, T_Share.ins.me, ?_⟩
      walk_at "go"
      refine g_top T_Share hs ?_
      walk_at "go"
      refine g_bot T_Share hs ?_
      walk_at "go"
      refine ⟨by walk_at "sz", ?_⟩
      intro p n_p
      generalize eq_H1 : upd H p _ = H1
      have S_H1 : Same H H1 := by rw [← eq_H1]; exact Same.new n_p
      have e_p := congrFun eq_H1 p
      rw [upd_same] at e_p
      have e_p := e_p.symm
      clear eq_H1
      exact k p H1 n_p S_H1 e_p
    · refine ⟨_, _, _, _, false, rfl, .own C_Share, .base (.int t), kit_int T_Share, ?_⟩
      walk_at "go"
      refine ⟨by walk_at "sz", ?_⟩
      intro p n_p
      generalize eq_H1 : upd H p _ = H1
      have S_H1 : Same H H1 := by rw [← eq_H1]; exact Same.new n_p
      have e_p := congrFun eq_H1 p
      rw [upd_same] at e_p
      have e_p := e_p.symm
      clear eq_H1
      exact k p H1 n_p S_H1 e_p
theorem ok_ShareU_initU {f : Addr} {fd : FuncData} (F : FunD K "__init__" "Share.__init__" (defArgs s_ShareU_initU) (defBody s_ShareU_initU) (defScope s_ShareU_initU) [.int 1] [] f fd) (T : Txt mg) (T_Share : Cl_Share K mg C_Share) (X_BadNumber : Up.XCal P w K mg base 1 "BadNumber" C_BadNumber ["what", "number"]) (C_divisor_of : Cal P w K mg base 1 "divisor_of" spDiv) :
    FnOk P w K mg base (L2.CX P w) 3 f fd ["self", "top", "bottom"] (spInit C_Share C_BadNumber) := by
  refine F.ok sc_ShareU_initU (fun vs H Q E h => ?_) (fun cdv A outer s H vs Q E hr h => ?_)
  · obtain ⟨a, dx, x, y, rfl, _⟩ := h
    rfl
  · obtain ⟨a, dx, x, y, rfl, ea, hx, hy, kE, kQ⟩ := h
    refine ⟨_, (pss_cons (ps_if (pt_cmpR op_eq (pv 2) pe_int (nomark _)) (pss_one (ps_raise rfl (takes_of rfl rfl rfl rfl) (Up.pmk_xc X_BadNumber hr (by decide) (by rfl) (pa_cons pe_str (pa_cons (pv 2) pa_nil))))) pss_nil)
      (pss_cons (ps_set (i := 3) sc_ShareU_initU.nd rfl (.inl rfl) (pe_ifExp (pt_cmpR op_gt (pv 2) pe_int (nomark _)) (pcal C_divisor_of hr (by decide) (by rfl) (pa_cons (pv 1) (pa_cons (pv 2) pa_nil))) (pe_un un_neg (pcal C_divisor_of hr (by decide) (by rfl) (pa_cons (pv 1) (pa_cons (pv 2) pa_nil))))))
      (pss_one (ps_asg (pe_tup (pa_cons (pe_op op_fdivNW (pv 1) (pv 3)) (pa_cons (pe_op op_fdivNW (pv 2) (pv 3)) pa_nil))) (pg_tup rfl (pgs_cons (Up.pg_fld (pv 0)) (pgs_cons (Up.pg_fld (pv 0)) pgs_nil))))))), ?_⟩
    walk_at "go"
    by_cases hy0 : y = 0
    · rw [decide_eq_true (congrArg V.int hy0)]
      walk_at "go"
      exact Up.g_xc rfl (by decide) fun d H2 n1 S1 e1 => kE hy0 d H2 n1 S1 e1
    · rw [decide_eq_false fun z => hy0 (V.int.inj z)]
      walk_at "go"
      have hlog : (by_ x y).natAbs.log2 < 9000 := log2_gcd (n := 1000) (by decide) hy0 hy (by decide)
      refine g_join (fun v H' => v = .int (by_ x y) ∧ H' = H) (fun c Q' hQ' => ?_) (fun c Q' hQ' => ?_) (fun v H' ⟨e1, e2⟩ => ?_)
      · walk_at "go"
        refine ⟨x, y, rfl, hQ' _ _ ⟨?_, rfl⟩⟩
        unfold by_
        rw [if_pos (of_decide_eq_true c)]
      · walk_at "go"
        refine ⟨x, y, rfl, ?_⟩
        walk_at "go"
        refine hQ' _ _ ⟨?_, rfl⟩
        unfold by_
        rw [if_neg fun z => c (decide_eq_true z)]
      subst e1 e2
      walk_at "go"
      refine g_rI ⟨by_ne hy0, hlog⟩ ?_
      walk_at "go"
      refine g_rI ⟨by_ne hy0, hlog⟩ ?_
      walk_at "go"
      refine ⟨by walk_at "sz", ?_⟩
      intro p n_p
      generalize eq_H1 : upd H' p _ = H1
      have S_H1 : Same H' H1 := by rw [← eq_H1]; exact Same.new n_p
      have e_p := congrFun eq_H1 p
      rw [upd_same] at e_p
      have e_p := e_p.symm
      clear eq_H1
      refine g_gtup (SqT.of e_p) rfl ?_
      walk_at "go"
      refine ⟨a, C_Share, dx, [], rfl, S_H1 _ _ ea, T_Share.ins.cl, T_Share.na_top, by decide, ?_⟩
      walk_at "go"
      refine ⟨a, C_Share, dx, _, rfl, upd_same, T_Share.ins.cl, T_Share.na_bottom, by show 1 < 1000; decide, ?_⟩
      walk_at "go"
      refine kQ hy0 _ _ _ (lst_mk hy0) ?_ ?_
      · rw [upd_upd]
        exact (Kp.of S_H1).trans Kp.put
      · rw [upd_same]
        exact congrArg (fun z => some (HO.ins C_Share dx z)) putF2
end
end My

set_option exponentiation.threshold 5000

namespace My
open PySem L2 Pre Sh
theorem bd_mul {m n : Nat} {x y : Int} (h1 : Bd m x) (h2 : Bd n y) : Bd (m + n) (x * y) := wide_lt h1 h2
theorem bd_mono {m n : Nat} {x : Int} (h : Bd m x) (e : m ≤ n) : Bd n x := Nat.lt_of_lt_of_le h (Nat.pow_le_pow_right (by decide) e)
theorem bd_add {n : Nat} {x y : Int} (h1 : Bd n x) (h2 : Bd n y) : Bd (n + 1) (x + y) := by
  have h1 : x.natAbs < 2 ^ n := h1
  have h2 : y.natAbs < 2 ^ n := h2
  show (x + y).natAbs < 2 ^ (n + 1)
  rw [Nat.pow_succ]
  omega
theorem bd_sub {n : Nat} {x y : Int} (h1 : Bd n x) (h2 : Bd n y) : Bd (n + 1) (x - y) := by
  have h1 : x.natAbs < 2 ^ n := h1
  have h2 : y.natAbs < 2 ^ n := h2
  show (x - y).natAbs < 2 ^ (n + 1)
  rw [Nat.pow_succ]
  omega
theorem wm {i j : Int} {a b : Nat} (ha : Bd a i) (hb : Bd b j) (h0 : 0 < a := by decide) (h1 : 0 < b := by decide) (h : a + b ≤ 1000000 := by decide) : CMulW i j := wide_mul ha hb h0 h1 h
theorem same_none {H H' : Hp} {q : Addr} (S : Same H H') (h : H' q = none) : H q = none := by
  cases e : H q with
  | none => rfl
  | some o => rw [S _ _ e] at h; cases h
/-- a share that is made -/
theorem g_sh {C CN : Addr} {H1 : Hp} {x y : Int} {R : Addr → Hp → Prop} {E : XK} (hx : Bd 1000 x) (hy : Bd 1000 y) (hy0 : y ≠ 0) (q : ∀ p t b H', Lst t b x y → H1 p = none → Same H1 H' → ShAt C H' p t b → R p H') :
    ∀ p dx, H1 p = none → H1 dx = none → dx ≠ p → spInit C CN (.ref p :: ([.int x, .int y] ++ [])) (upd (upd H1 dx (.own p)) p (.ins C dx [])) (fun v H2 => v = .non ∧ R p H2) E := by
  intro p dx np nd ne
  refine ⟨p, dx, x, y, rfl, upd_same, hx, hy, fun z => absurd z hy0, fun _ t b H' hl hk ha => ⟨rfl, q p t b H' hl np (fun c o e => ?_) ⟨dx, ha⟩⟩⟩
  have c1 : c ≠ p := ne_of_none e np
  have c2 : c ≠ dx := ne_of_none e nd
  exact hk c o c1 (by rw [upd_ne c1, upd_ne c2]; exact e)
theorem g_sh1 {C CN : Addr} {H1 : Hp} {x : Int} {R : Addr → Hp → Prop} {E : XK} (hx : Bd 1000 x) (q : ∀ p t b H', Lst t b x 1 → H1 p = none → Same H1 H' → ShAt C H' p t b → R p H') :
    ∀ p dx, H1 p = none → H1 dx = none → dx ≠ p → spInit C CN (.ref p :: ([.int x] ++ [.int 1])) (upd (upd H1 dx (.own p)) p (.ins C dx [])) (fun v H2 => v = .non ∧ R p H2) E := g_sh hx (by decide) (by decide) q
/-- what the methods ask of their two values -/
structure Two (C : Addr) (H : Hp) (a : Addr) (v : V) (t b t2 b2 : Int) : Prop where
  sh : ShAt C H a t b
  nm : Nm C H v t2 b2
  p1 : 0 < b
  p2 : 0 < b2
  d1 : Bd 300 t
  d2 : Bd 300 b
  d3 : Bd 300 t2
  d4 : Bd 300 b2
def spAr (C : Addr) (fx fy : Int → Int → Int → Int → Int) : Sp := fun vs H Q _ => ∃ (a : Addr) (v : V) (t b t2 b2 : Int), vs = [.ref a, v] ∧ Two C H a v t b t2 b2 ∧ fy t b t2 b2 ≠ 0 ∧
  ∀ p t' b' H', Lst t' b' (fx t b t2 b2) (fy t b t2 b2) → H p = none → Same H H' → ShAt C H' p t' b' → Q (.ref p) H'
def spCmp (C : Addr) : Sp := fun vs H Q _ => ∃ (a : Addr) (v : V) (t b t2 b2 : Int), vs = [.ref a, v] ∧ Two C H a v t b t2 b2 ∧ ∀ H', Same H H' → Q (.int (t * b2 - t2 * b)) H'
def spLt (C : Addr) : Sp := fun vs H Q _ => ∃ (a : Addr) (v : V) (t b t2 b2 : Int), vs = [.ref a, v] ∧ Two C H a v t b t2 b2 ∧ ∀ H', Same H H' → Q (.bl (decide (t * b2 - t2 * b < 0))) H'
def spLe (C : Addr) : Sp := fun vs H Q _ => ∃ (a : Addr) (v : V) (t b t2 b2 : Int), vs = [.ref a, v] ∧ Two C H a v t b t2 b2 ∧ ∀ H', Same H H' → Q (.bl (decide (t * b2 - t2 * b ≤ 0))) H'
def spEq (C : Addr) : Sp := fun vs H Q _ => ∃ (a : Addr) (v : V), vs = [.ref a, v] ∧
  ((∃ t b t2 b2, Two C H a v t b t2 b2 ∧ ∀ H', Same H H' → Q (.bl (decide (t * b2 - t2 * b = 0))) H') ∨ (((∃ z, v = .bl z) ∨ ∃ z, v = .str z) ∧ ∀ H', Same H H' → Q (.bl false) H'))
section
variable {P : Program} {w : World} {K : PySem.W.Frag} {mg : Str → Option Value} {base : Heap} {C_Share C_BadNumber C_BadText : Addr}
theorem ok_ShareU_addU {f : Addr} {fd : FuncData} (F : Fun K "__add__" "Share.__add__" s_ShareU_addU f fd) (T : Txt mg) (T_Share : Cl_Share K mg C_Share) (MK_Share : Own.MkC (L2.CX P w) P w K mg base 3 "Share" C_Share (spInit C_Share C_BadNumber) [])
    (C_share_parts : Cal P w K mg base 1 "share_parts" (spParts C_Share)) : FnOk P w K mg base CX0 5 f fd ["self", "other"] (spAr C_Share (fun t b t2 b2 => t * b2 + t2 * b) fun _ b _ b2 => b * b2) := by
  refine F.ok sc_ShareU_addU (fun vs H Q E h => ?_) (fun cdv A outer s H vs Q E hr h => ?_)
  · obtain ⟨a, v, t, b, t2, b2, rfl, _⟩ := h
    rfl
  · obtain ⟨a, v, t, b, t2, b2, rfl, W, hy, k⟩ := h
    refine ⟨_, (pss_cons (ps_asg (pcal C_share_parts hr (by decide) (by rfl) (pa_cons (pv 1) pa_nil)) (pg_tup rfl (pgs_cons (pg_name (i := 2) sc_ShareU_addU.nd rfl (.inl rfl)) (pgs_cons (pg_name (i := 3) sc_ShareU_addU.nd rfl (.inl rfl)) pgs_nil))))
      (pss_one (ps_ret (Own.pmake MK_Share passL hr (by decide) (by rfl) (pa_cons (pe_op op_add (pe_op op_mulW (pe_fld (pv 0) rfl) (pv 3)) (pe_op op_mulW (pv 2) (pe_fld (pv 0) rfl))) (pa_cons (pe_op op_mulW (pe_fld (pv 0) rfl) (pv 3)) pa_nil)))))), ?_⟩
    walk_at "go"
    refine ⟨v, t2, b2, rfl, W.nm, fun p H1 np S1 ep => ?_⟩
    walk_at "go"
    refine g_gtup (SqT.of ep) rfl ?_
    walk_at "go"
    have sh := W.sh.keep S1
    refine g_top T_Share sh ?_
    walk_at "go"
    refine g_rI (wm W.d1 W.d4) ?_
    walk_at "go"
    refine g_bot T_Share sh ?_
    walk_at "go"
    refine g_rI (wm W.d3 W.d2) ?_
    walk_at "go"
    refine g_bot T_Share sh ?_
    walk_at "go"
    refine g_rI (wm W.d2 W.d4) ?_
    walk_at "go"
    exact g_sh (bd_mono (bd_add (bd_mul W.d1 W.d4) (bd_mul W.d3 W.d2)) (by decide)) (bd_mono (bd_mul W.d2 W.d4) (by decide)) hy fun q t' b' H2 hl nq S2 eq => k q t' b' H2 hl (same_none S1 nq) (S1.trans S2) eq
theorem ok_ShareU_subU {f : Addr} {fd : FuncData} (F : Fun K "__sub__" "Share.__sub__" s_ShareU_subU f fd) (T : Txt mg) (T_Share : Cl_Share K mg C_Share) (MK_Share : Own.MkC (L2.CX P w) P w K mg base 3 "Share" C_Share (spInit C_Share C_BadNumber) [])
    (C_share_parts : Cal P w K mg base 1 "share_parts" (spParts C_Share)) : FnOk P w K mg base CX0 5 f fd ["self", "other"] (spAr C_Share (fun t b t2 b2 => t * b2 - t2 * b) fun _ b _ b2 => b * b2) := by
  refine F.ok sc_ShareU_subU (fun vs H Q E h => ?_) (fun cdv A outer s H vs Q E hr h => ?_)
  · obtain ⟨a, v, t, b, t2, b2, rfl, _⟩ := h
    rfl
  · obtain ⟨a, v, t, b, t2, b2, rfl, W, hy, k⟩ := h
    refine ⟨_, (pss_cons (ps_asg (pcal C_share_parts hr (by decide) (by rfl) (pa_cons (pv 1) pa_nil)) (pg_tup rfl (pgs_cons (pg_name (i := 2) sc_ShareU_subU.nd rfl (.inl rfl)) (pgs_cons (pg_name (i := 3) sc_ShareU_subU.nd rfl (.inl rfl)) pgs_nil))))
      (pss_one (ps_ret (Own.pmake MK_Share passL hr (by decide) (by rfl) (pa_cons (pe_op op_sub (pe_op op_mulW (pe_fld (pv 0) rfl) (pv 3)) (pe_op op_mulW (pv 2) (pe_fld (pv 0) rfl))) (pa_cons (pe_op op_mulW (pe_fld (pv 0) rfl) (pv 3)) pa_nil)))))), ?_⟩
    walk_at "go"
    refine ⟨v, t2, b2, rfl, W.nm, fun p H1 np S1 ep => ?_⟩
    walk_at "go"
    refine g_gtup (SqT.of ep) rfl ?_
    walk_at "go"
    have sh := W.sh.keep S1
    refine g_top T_Share sh ?_
    walk_at "go"
    refine g_rI (wm W.d1 W.d4) ?_
    walk_at "go"
    refine g_bot T_Share sh ?_
    walk_at "go"
    refine g_rI (wm W.d3 W.d2) ?_
    walk_at "go"
    refine g_bot T_Share sh ?_
    walk_at "go"
    refine g_rI (wm W.d2 W.d4) ?_
    walk_at "go"
    exact g_sh (bd_mono (bd_sub (bd_mul W.d1 W.d4) (bd_mul W.d3 W.d2)) (by decide)) (bd_mono (bd_mul W.d2 W.d4) (by decide)) hy fun q t' b' H2 hl nq S2 eq => k q t' b' H2 hl (same_none S1 nq) (S1.trans S2) eq
theorem ok_ShareU_mulU {f : Addr} {fd : FuncData} (F : Fun K "__mul__" "Share.__mul__" s_ShareU_mulU f fd) (T : Txt mg) (T_Share : Cl_Share K mg C_Share) (MK_Share : Own.MkC (L2.CX P w) P w K mg base 3 "Share" C_Share (spInit C_Share C_BadNumber) [])
    (C_share_parts : Cal P w K mg base 1 "share_parts" (spParts C_Share)) : FnOk P w K mg base CX0 5 f fd ["self", "other"] (spAr C_Share (fun t _ t2 _ => t * t2) fun _ b _ b2 => b * b2) := by
  refine F.ok sc_ShareU_mulU (fun vs H Q E h => ?_) (fun cdv A outer s H vs Q E hr h => ?_)
  · obtain ⟨a, v, t, b, t2, b2, rfl, _⟩ := h
    rfl
  · obtain ⟨a, v, t, b, t2, b2, rfl, W, hy, k⟩ := h
    refine ⟨_, (pss_cons (ps_asg (pcal C_share_parts hr (by decide) (by rfl) (pa_cons (pv 1) pa_nil)) (pg_tup rfl (pgs_cons (pg_name (i := 2) sc_ShareU_mulU.nd rfl (.inl rfl)) (pgs_cons (pg_name (i := 3) sc_ShareU_mulU.nd rfl (.inl rfl)) pgs_nil))))
      (pss_one (ps_ret (Own.pmake MK_Share passL hr (by decide) (by rfl) (pa_cons (pe_op op_mulW (pe_fld (pv 0) rfl) (pv 2)) (pa_cons (pe_op op_mulW (pe_fld (pv 0) rfl) (pv 3)) pa_nil)))))), ?_⟩
    walk_at "go"
    refine ⟨v, t2, b2, rfl, W.nm, fun p H1 np S1 ep => ?_⟩
    walk_at "go"
    refine g_gtup (SqT.of ep) rfl ?_
    walk_at "go"
    have sh := W.sh.keep S1
    refine g_top T_Share sh ?_
    walk_at "go"
    refine g_rI (wm W.d1 W.d3) ?_
    walk_at "go"
    refine g_bot T_Share sh ?_
    walk_at "go"
    refine g_rI (wm W.d2 W.d4) ?_
    walk_at "go"
    exact g_sh (bd_mono (bd_mul W.d1 W.d3) (by decide)) (bd_mono (bd_mul W.d2 W.d4) (by decide)) hy fun q t' b' H2 hl nq S2 eq => k q t' b' H2 hl (same_none S1 nq) (S1.trans S2) eq
theorem ok_Share_over {f : Addr} {fd : FuncData} (F : Fun K "over" "Share.over" s_Share_over f fd) (T : Txt mg) (T_Share : Cl_Share K mg C_Share) (MK_Share : Own.MkC (L2.CX P w) P w K mg base 3 "Share" C_Share (spInit C_Share C_BadNumber) [])
    (C_share_parts : Cal P w K mg base 1 "share_parts" (spParts C_Share)) : FnOk P w K mg base CX0 5 f fd ["self", "other"] (spAr C_Share (fun t _ _ b2 => t * b2) fun _ b t2 _ => b * t2) := by
  refine F.ok sc_Share_over (fun vs H Q E h => ?_) (fun cdv A outer s H vs Q E hr h => ?_)
  · obtain ⟨a, v, t, b, t2, b2, rfl, _⟩ := h
    rfl
  · obtain ⟨a, v, t, b, t2, b2, rfl, W, hy, k⟩ := h
    refine ⟨_, (pss_cons (ps_asg (pcal C_share_parts hr (by decide) (by rfl) (pa_cons (pv 1) pa_nil)) (pg_tup rfl (pgs_cons (pg_name (i := 2) sc_Share_over.nd rfl (.inl rfl)) (pgs_cons (pg_name (i := 3) sc_Share_over.nd rfl (.inl rfl)) pgs_nil))))
      (pss_one (ps_ret (Own.pmake MK_Share passL hr (by decide) (by rfl) (pa_cons (pe_op op_mulW (pe_fld (pv 0) rfl) (pv 3)) (pa_cons (pe_op op_mulW (pe_fld (pv 0) rfl) (pv 2)) pa_nil)))))), ?_⟩
    walk_at "go"
    refine ⟨v, t2, b2, rfl, W.nm, fun p H1 np S1 ep => ?_⟩
    walk_at "go"
    refine g_gtup (SqT.of ep) rfl ?_
    walk_at "go"
    have sh := W.sh.keep S1
    refine g_top T_Share sh ?_
    walk_at "go"
    refine g_rI (wm W.d1 W.d4) ?_
    walk_at "go"
    refine g_bot T_Share sh ?_
    walk_at "go"
    refine g_rI (wm W.d2 W.d3) ?_
    walk_at "go"
    exact g_sh (bd_mono (bd_mul W.d1 W.d4) (by decide)) (bd_mono (bd_mul W.d2 W.d3) (by decide)) hy fun q t' b' H2 hl nq S2 eq => k q t' b' H2 hl (same_none S1 nq) (S1.trans S2) eq
theorem ok_Share_compared {f : Addr} {fd : FuncData} (F : Fun K "compared" "Share.compared" s_Share_compared f fd) (T : Txt mg) (T_Share : Cl_Share K mg C_Share) (C_share_parts : Cal P w K mg base 1 "share_parts" (spParts C_Share)) : FnOk P w K mg base CX0 2 f fd ["self", "other"] (spCmp C_Share) := by
  refine F.ok sc_Share_compared (fun vs H Q E h => ?_) (fun cdv A outer s H vs Q E hr h => ?_)
  · obtain ⟨a, v, t, b, t2, b2, rfl, _⟩ := h
    rfl
  · obtain ⟨a, v, t, b, t2, b2, rfl, W, k⟩ := h
    refine ⟨_, (pss_cons (ps_asg (pcal C_share_parts hr (by decide) (by rfl) (pa_cons (pv 1) pa_nil)) (pg_tup rfl (pgs_cons (pg_name (i := 2) sc_Share_compared.nd rfl (.inl rfl)) (pgs_cons (pg_name (i := 3) sc_Share_compared.nd rfl (.inl rfl)) pgs_nil))))
      (pss_one (ps_ret (pe_op op_sub (pe_op op_mulW (pe_fld (pv 0) rfl) (pv 3)) (pe_op op_mulW (pv 2) (pe_fld (pv 0) rfl)))))), ?_⟩
    walk_at "go"
    refine ⟨v, t2, b2, rfl, W.nm, fun p H1 np S1 ep => ?_⟩
    walk_at "go"
    refine g_gtup (SqT.of ep) rfl ?_
    walk_at "go"
    have sh := W.sh.keep S1
    refine g_top T_Share sh ?_
    walk_at "go"
    refine g_rI (wm W.d1 W.d4) ?_
    walk_at "go"
    refine g_bot T_Share sh ?_
    walk_at "go"
    refine g_rI (wm W.d3 W.d2) ?_
    walk_at "go"
    exact k H1 S1
theorem ok_Share_under {f : Addr} {fd : FuncData} (F : Fun K "under" "Share.under" s_Share_under f fd) (T : Txt mg) (T_Share : Cl_Share K mg C_Share) (M_Share_compared : Own.MCal P w K mg base 2 C_Share "compared" (spCmp C_Share)) : FnOk P w K mg base CX0 3 f fd ["self", "other"] (spLt C_Share) := by
  refine F.ok sc_Share_under (fun vs H Q E h => ?_) (fun cdv A outer s H vs Q E hr h => ?_)
  · obtain ⟨a, v, t, b, t2, b2, rfl, _⟩ := h
    rfl
  · obtain ⟨a, v, t, b, t2, b2, rfl, W, k⟩ := h
    refine ⟨_, (pss_one (ps_ret (pe_cmpR op_lt (Own.pmeth M_Share_compared  T_Share.ins.cl hr (by decide) (pv 0) (pa_cons (pv 1) pa_nil)) pe_int (nomark _)))), ?_⟩
    walk_at "go"
    obtain ⟨dx, ea⟩ := W.sh
    refine ⟨a, dx, _, rfl, ea, look_no (ks := ["top", "bottom"]) (by decide +kernel), ?_⟩
    walk_at "go"
    refine ⟨a, v, t, b, t2, b2, rfl, W, fun H1 S1 => ?_⟩
    walk_at "go"
    exact k H1 S1
theorem ok_Share_at_most {f : Addr} {fd : FuncData} (F : Fun K "at_most" "Share.at_most" s_Share_at_most f fd) (T : Txt mg) (T_Share : Cl_Share K mg C_Share) (M_Share_compared : Own.MCal P w K mg base 2 C_Share "compared" (spCmp C_Share)) : FnOk P w K mg base CX0 3 f fd ["self", "other"] (spLe C_Share) := by
  refine F.ok sc_Share_at_most (fun vs H Q E h => ?_) (fun cdv A outer s H vs Q E hr h => ?_)
  · obtain ⟨a, v, t, b, t2, b2, rfl, _⟩ := h
    rfl
  · obtain ⟨a, v, t, b, t2, b2, rfl, W, k⟩ := h
    refine ⟨_, (pss_one (ps_ret (pe_cmpR op_le (Own.pmeth M_Share_compared  T_Share.ins.cl hr (by decide) (pv 0) (pa_cons (pv 1) pa_nil)) pe_int (nomark _)))), ?_⟩
    walk_at "go"
    obtain ⟨dx, ea⟩ := W.sh
    refine ⟨a, dx, _, rfl, ea, look_no (ks := ["top", "bottom"]) (by decide +kernel), ?_⟩
    walk_at "go"
    refine ⟨a, v, t, b, t2, b2, rfl, W, fun H1 S1 => ?_⟩
    walk_at "go"
    exact k H1 S1
theorem ok_ShareU_eqU {f : Addr} {fd : FuncData} (F : Fun K "__eq__" "Share.__eq__" s_ShareU_eqU f fd) (T : Txt mg) (T_Share : Cl_Share K mg C_Share) (M_Share_compared : Own.MCal P w K mg base 2 C_Share "compared" (spCmp C_Share)) : FnOk P w K mg base CX0 3 f fd ["self", "other"] (spEq C_Share) := by
  refine F.ok sc_ShareU_eqU (fun vs H Q E h => ?_) (fun cdv A outer s H vs Q E hr h => ?_)
  · obtain ⟨a, v, rfl, _⟩ := h
    rfl
  · obtain ⟨a, v, rfl, h⟩ := h
    refine ⟨_, (pss_cons (ps_if (PW.pt (pw_or (pt_not (pt_val (pe_callB call_isiT (by rfl) T.b_isinstance (by decide +kernel) (pa_cons (pv 1) (pa_cons (pe_tup (pa_cons (pgl (v := .ref C_Share) (by rfl) ⟨_, T_Share.gl, rfl⟩) (pa_cons (pe_bltn (v := .ty "int") (by rfl) T.b_int (by decide +kernel) rfl) pa_nil))) pa_nil))))) (pw_or1 (pt_val (pe_callB call_isi (by rfl) T.b_isinstance (by decide +kernel) (pa_cons (pv 1) (pa_cons (pe_bltn (v := .ty "bool") (by rfl) T.b_bool (by decide +kernel) rfl) pa_nil))))))) (pss_one (ps_ret pe_bl)) pss_nil)
      (pss_one (ps_ret (pe_cmpR op_eq (Own.pmeth M_Share_compared  T_Share.ins.cl hr (by decide) (pv 0) (pa_cons (pv 1) pa_nil)) pe_int (nomark _))))), ?_⟩
    walk_at "go"
    refine ⟨by walk_at "sz", ?_⟩
    intro p n_p
    generalize eq_H1 : upd H p _ = H1
    have S_H1 : Same H H1 := by rw [← eq_H1]; exact Same.new n_p
    have e_p := congrFun eq_H1 p
    rw [upd_same] at e_p
    have e_p := e_p.symm
    clear eq_H1
    have cs : Paired ClsV [V.ref C_Share, V.ty "int"] [Value.ref C_Share, Value.type "int"] := .cons (.own _) (.cons (.ty _) .nil)
    rcases h with ⟨t, b, t2, b2, W, k⟩ | ⟨h, k⟩
    · have fin : TyX K H1 v (.ref C_Share) ∨ TyX K H1 v (.type "int") := by
        rcases W.nm with ⟨a2, rfl, s2⟩ | ⟨rfl, _⟩
        · exact .inl (ty_share T_Share (s2.keep S_H1))
        · exact .inr (.base (.int _))
      have e1 : ∃ tt, TyX K H1 v tt ∧ PySem.W.kitAny K tt [.ref C_Share, .type "int"] = some true ∧ PySem.W.kitOne K tt (.type "bool") = some false := by
        rcases fin with h | h
        · exact ⟨_, h, kitAny_cons T_Share.ins.me (fun z => nomatch z) (fun _ => rfl), T_Share.nb⟩
        · exact ⟨_, h, kitAny_cons (kit_int T_Share) (fun _ => kitAny_cons (kit_ty (by decide +kernel) : PySem.W.kitOne K (.type "int") (.type "int") = some true) (fun z => nomatch z) fun _ => rfl) (fun z => nomatch z), kit_ty (by decide +kernel)⟩
      obtain ⟨tt, h1, h2, h3⟩ := e1
      refine ⟨v, p, _, tt, _, true, rfl, e_p, cs, h1, h2, ?_⟩
      walk_at "go"
      refine ⟨v, .ty "bool", tt, .type "bool", false, rfl, .ty "bool", h1, h3, ?_⟩
      walk_at "go"
      obtain ⟨dx, ea⟩ := W.sh
      have ea := S_H1 _ _ ea
      refine ⟨a, dx, _, rfl, ea, look_no (ks := ["top", "bottom"]) (by decide +kernel), ?_⟩
      walk_at "go"
      refine ⟨a, v, t, b, t2, b2, rfl, ⟨⟨dx, ea⟩, W.nm.keep S_H1, W.p1, W.p2, W.d1, W.d2, W.d3, W.d4⟩, fun H2 S2 => ?_⟩
      walk_at "go"
      rw [show decide (V.int (t * b2 - t2 * b) = V.int 0) = decide (t * b2 - t2 * b = 0) from decide_eq_decide.mpr ⟨V.int.inj, congrArg V.int⟩]
      exact k H2 (S_H1.trans S2)
    · rcases h with ⟨z, rfl⟩ | ⟨z, rfl⟩
      · refine ⟨.bl z, p, _, .type "bool", _, true, rfl, e_p, cs, .base (.bl z), kitAny_cons (kit_bool T_Share) (fun _ => kitAny_cons (kit_ty (by decide +kernel) : PySem.W.kitOne K (.type "bool") (.type "int") = some true) (fun z => nomatch z) fun _ => rfl) (fun z => nomatch z), ?_⟩
        walk_at "go"
        refine ⟨.bl z, .ty "bool", .type "bool", .type "bool", true, rfl, .ty "bool", .base (.bl z), kit_ty (by decide +kernel), ?_⟩
        walk_at "go"
        exact k H1 S_H1
      · refine ⟨.str z, p, _, .type "str", _, false, rfl, e_p, cs, .base (.str z), kitAny_cons (kit_str T_Share) (fun _ => kitAny_cons (kit_ty (by decide +kernel) : PySem.W.kitOne K (.type "str") (.type "int") = some false) (fun _ => kitAny_nil) fun z => nomatch z) (fun z => nomatch z), ?_⟩
        walk_at "go"
        exact k H1 S_H1
end
end My

set_option exponentiation.threshold 5000

namespace My
open PySem L2 Pre Sh Tx SX
/-! ### the plain law of the written forms -/
/-- how many signs of a whole number without needless noughts stand at the beginning -/
def nl : List Nat → Nat
  | [] => 0
  | c :: r => if c = 48 then 1 else ((c :: r).takeWhile dig).length
theorem nl_cons {c : Nat} {r : List Nat} : nl (c :: r) = if c = 48 then 1 else ((c :: r).takeWhile dig).length := rfl
theorem nl_le (r : List Nat) : nl r ≤ r.length := by
  cases r with
  | nil => exact Nat.le_refl _
  | cons c r =>
    rw [nl_cons]
    split
    · simp
    · exact (List.takeWhile_sublist _).length_le
/-- .. told by the walk: i digits, none of it a nought at the beginning with more behind it -/
theorem nl_of {l : List Nat} {n i : Nat} (h : ∀ j, j < i → ∃ c, l[n + j]? = some c ∧ dig c = true) (h0 : 1 ≤ i → l[n]? ≠ some 48) (he : ∀ c, l[n + i]? = some c → dig c = false) : nl (l.drop n) = i := by
  have tw : ((l.drop n).takeWhile dig).length = i := tw_len (fun j hj => by rw [List.getElem?_drop]; exact h j hj) (fun c e => by rw [List.getElem?_drop] at e; exact he c e)
  have e0 : (l.drop n)[0]? = l[n]? := by rw [List.getElem?_drop, Nat.add_zero]
  cases hr : l.drop n with
  | nil =>
    rw [hr] at tw
    exact tw
  | cons c r =>
    rw [hr] at tw e0
    rw [nl_cons, if_neg]
    · exact tw
    · intro z
      subst z
      cases i with
      | zero =>
        have := he 48 (by rw [Nat.add_zero, ← e0]; rfl)
        exact absurd this (by decide)
      | succ i => exact h0 (Nat.succ_pos _) (by rw [← e0]; rfl)
theorem nl_one {l : List Nat} {n : Nat} (h : l[n]? = some 48) : nl (l.drop n) = 1 := by
  have e0 : (l.drop n)[0]? = some 48 := by rw [List.getElem?_drop, Nat.add_zero]; exact h
  cases hr : l.drop n with
  | nil => rw [hr] at e0; cases e0
  | cons c r =>
    rw [hr] at e0
    cases e0
    rfl
def st (l : List Nat) : Nat := if l.head? = some 45 then 1 else 0
def at1 (l : List Nat) : Nat := st l + nl (l.drop (st l))
def at2 (l : List Nat) : Nat := at1 l + 1 + nl (l.drop (at1 l + 1))
/-- the column of the first wrong sign, 0 if there is none -/
def tcol (l : List Nat) : Nat :=
  if nl (l.drop (st l)) = 0 ∨ (st l = 1 ∧ l[1]? = some 48) then st l + 1
  else if at1 l = l.length then 0
  else if l[at1 l]? ≠ some 47 then at1 l + 1
  else if nl (l.drop (at1 l + 1)) = 0 ∨ l[at1 l + 1]? = some 48 then at1 l + 2
  else if at2 l < l.length then at2 l + 1 else 0
def ival (l : List Nat) : Int := if l.head? = some 45 then -((NumText.digitsVal l.tail : Nat) : Int) else ((NumText.digitsVal l : Nat) : Int)
def vtop (l : List Nat) : Int := ival (l.take (at1 l))
def vbot (l : List Nat) : Int := if at1 l = l.length then 1 else ((NumText.digitsVal (l.drop (at1 l + 1)) : Nat) : Int)
theorem take_nl {r : List Nat} : ∀ c ∈ r.take (nl r), dig c = true := by
  intro c hc
  cases r with
  | nil => rw [List.take_nil] at hc; cases hc
  | cons d r =>
    rw [nl_cons] at hc
    split at hc
    · rename_i e
      subst e
      simp at hc
      subst hc
      decide
    · have := List.prefix_iff_eq_take.mp (List.takeWhile_prefix (p := dig) (l := d :: r))
      rw [← this] at hc
      exact List.all_eq_true.mp List.all_takeWhile c hc
theorem st_le (l : List Nat) : st l ≤ 1 := by unfold st; split <;> omega
theorem st_len (l : List Nat) : st l ≤ l.length := by
  unfold st
  cases l with
  | nil => simp
  | cons c r => split <;> simp
theorem at1_le (l : List Nat) : at1 l ≤ l.length := by
  unfold at1
  have := nl_le (l.drop (st l))
  rw [List.length_drop] at this
  have := st_len l
  omega
theorem int_top {l : List Nat} (hl : l.length ≤ 200) (h : nl (l.drop (st l)) ≠ 0) : intText? (S (l.take (at1 l))) = some (vtop l) ∧ Bd 1000 (vtop l) := by
  have hd := take_nl (r := l.drop (st l))
  unfold vtop ival at1
  by_cases hs : l.head? = some 45
  · have e1 : st l = 1 := by unfold st; rw [if_pos hs]
    obtain ⟨r, rfl⟩ : ∃ r, l = 45 :: r := by
      cases l with
      | nil => cases hs
      | cons c r => cases hs; exact ⟨r, rfl⟩
    rw [e1] at hd h ⊢
    rw [show (1 + nl ((45 :: r).drop 1)) = nl r + 1 by rw [List.drop_one, List.tail_cons, Nat.add_comm], List.take_succ_cons, List.head?_cons, if_pos rfl, List.tail_cons]
    rw [List.drop_one, List.tail_cons] at hd h
    have hne : r.take (nl r) ≠ [] := fun z => h (by have := congrArg List.length z; rw [List.length_take, Nat.min_eq_left (nl_le r)] at this; exact this)
    have hlen : (r.take (nl r)).length ≤ 200 := by rw [List.length_take]; simp at hl; omega
    refine ⟨intText_neg (x := S (45 :: r.take (nl r))) (cs := r.take (nl r)) rfl (digs_all hd) hne (by rw [S_len, List.length_cons]; omega), ?_⟩
    have := digitsVal_lt _ _ rfl (digs_all hd)
    show (-((NumText.digitsVal (r.take (nl r)) : Nat) : Int)).natAbs < 2 ^ 1000
    have h2 : 10 ^ (r.take (nl r)).length ≤ 10 ^ 200 := Nat.pow_le_pow_right (by decide) hlen
    have h3 : (10 : Nat) ^ 200 < 2 ^ 1000 := by decide
    omega
  · have e1 : st l = 0 := by unfold st; rw [if_neg hs]
    rw [e1] at hd h ⊢
    rw [List.drop_zero] at hd h ⊢
    rw [Nat.zero_add]
    have hne : l.take (nl l) ≠ [] := fun z => h (by have := congrArg List.length z; rw [List.length_take, Nat.min_eq_left (nl_le l)] at this; exact this)
    have hlen : (l.take (nl l)).length ≤ 200 := by rw [List.length_take]; omega
    have hh : (l.take (nl l)).head? ≠ some 45 := fun z => by
      have : 45 ∈ l.take (nl l) := List.mem_of_mem_head? z
      exact absurd (hd 45 this) (by decide)
    rw [if_neg hh]
    refine ⟨intText_digits (x := S (l.take (nl l))) (digs_all hd) hne (by rw [S_len]; omega), ?_⟩
    have := digitsVal_lt _ _ rfl (digs_all hd)
    show (((NumText.digitsVal (l.take (nl l)) : Nat) : Int)).natAbs < 2 ^ 1000
    have h2 : 10 ^ (l.take (nl l)).length ≤ 10 ^ 200 := Nat.pow_le_pow_right (by decide) hlen
    have h3 : (10 : Nat) ^ 200 < 2 ^ 1000 := by decide
    omega
theorem int_bot {l : List Nat} (hl : l.length ≤ 200) (h : at1 l ≠ l.length) (h0 : nl (l.drop (at1 l + 1)) ≠ 0) (h1 : l[at1 l + 1]? ≠ some 48) (h2 : ¬ at2 l < l.length) : intText? (S (l.drop (at1 l + 1))) = some (vbot l) ∧ Bd 1000 (vbot l) ∧ vbot l ≠ 0 := by
  unfold vbot
  rw [if_neg h]
  generalize hr : l.drop (at1 l + 1) = r at *
  have hnl : nl r = r.length := by
    have a1 := nl_le r
    have a2 : r.length = l.length - (at1 l + 1) := by rw [← hr, List.length_drop]
    unfold at2 at h2
    rw [hr] at h2
    omega
  have hd := take_nl (r := r)
  rw [hnl, List.take_length] at hd
  have hlen : r.length ≤ 200 := by rw [← hr, List.length_drop]; omega
  have hne : r ≠ [] := fun z => by rw [z] at h0; exact h0 rfl
  refine ⟨intText_digits (x := S r) (digs_all hd) hne (by rw [S_len]; omega), ?_, ?_⟩
  · have := digitsVal_lt _ _ rfl (digs_all hd)
    show (((NumText.digitsVal r : Nat) : Int)).natAbs < 2 ^ 1000
    have h2 : 10 ^ r.length ≤ 10 ^ 200 := Nat.pow_le_pow_right (by decide) hlen
    have h3 : (10 : Nat) ^ 200 < 2 ^ 1000 := by decide
    omega
  · cases r with
    | nil => exact absurd rfl hne
    | cons c r =>
      have hc := dig_iff.mp (hd c (List.mem_cons_self ..))
      have hc0 : c ≠ 48 := fun z => h1 (by
        have : (l.drop (at1 l + 1))[0]? = some c := by rw [hr]; rfl
        rw [List.getElem?_drop, Nat.add_zero] at this
        rw [this, z])
      have := NumText.digitsVal_pos (c := c) (cs := r) (by omega)
      omega
/-! ### steps for texts -/
theorem len_ok {l : List Nat} (hl : l.length ≤ 200) : (S l).length ≤ sizeLine := by rw [S_len]; exact Nat.le_of_lt (small1000 (by omega))
theorem g_ixX {l : List Nat} {n c : Nat} {a : Int} {H : Hp} {Q : VK} (hl : l.length ≤ 200) (e : a = (n : Int)) (hc : l[n]? = some c) (q : Q (.str (S [c])) H) : rIxS (.str (S l)) (.int a) H Q :=
  ⟨S l, a, c, rfl, rfl, by rw [S_len]; exact Nat.le_of_lt (small1000 (by omega)), by subst e; exact atI_nat hc, q⟩
theorem g_slX {l r : List Nat} {lo hi : Option Int} {H : Hp} {Q : VK} (hl : l.length ≤ 200) (e : Txt.slice (S l) lo hi = S r) (q : Q (.str (S r)) H) : C8.rSlX (.str (S l)) lo hi H Q := ⟨S l, rfl, by rw [S_len]; exact Nat.le_of_lt (small1000 (by omega)), by rw [e]; exact q⟩
theorem str0 : ("0" : Str) = S [48] := by decide +kernel
theorem strSl : ("/" : Str) = S [47] := by decide +kernel
theorem strMi : ("-" : Str) = S [45] := by decide +kernel
def spEnd : Sp := fun vs H Q _ => ∃ (l : List Nat) (n : Nat), vs = [.str (S l), .int n] ∧ l.length ≤ 200 ∧ n ≤ l.length ∧
  ∀ p H', H p = none → Same H H' → H' p = some (.tup [.int ((n + nl (l.drop n) : Nat) : Int), .bl (decide (nl (l.drop n) ≠ 0))]) → Q (.ref p) H'
section
variable {P : Program} {w : World} {K : PySem.W.Frag} {mg : Str → Option Value} {base : Heap} {C_Share C_BadNumber C_BadText : Addr}
theorem ok_number_end {f : Addr} {fd : FuncData} (F : Fun K "number_end" "number_end" s_number_end f fd) (T : Txt mg) : FnOk P w K mg base CX0 1 f fd ["text", "at"] spEnd := by
  refine F.ok sc_number_end (fun vs H Q E h => ?_) (fun cdv A outer s H vs Q E hr h => ?_)
  · obtain ⟨l, n, rfl, _⟩ := h
    rfl
  · obtain ⟨l, n, rfl, hl, hn, k⟩ := h
    refine ⟨_, (pss_cons (ps_set (i := 2) sc_number_end.nd rfl (.inl rfl) (pv 1))
      (pss_cons (ps_while PassesOwn.never (PW.pt (pw_and (pt_cmpR op_lt (pv 1) (pe_callB call_len_str (by rfl) T.b_len PySem.boot_len (pa_cons (pv 0) pa_nil)) (nomark _)) (pw_and1 (pt_cmpR op_in_str (pe_ix ix_str (pv 0) (pv 1) (fun _ _ => rfl)) (pgl (by rfl) T.c_FIGURES) (by rfl))))) (pss_cons (ps_aug (i := 1) sc_number_end.nd rfl (.inl rfl) pe_int ip_add)
      (pss_one (ps_if (PW.pt (pw_and (pt_cmpR op_eq (pv 1) (pe_op op_add (pv 2) pe_int) (nomark _)) (pw_and1 (pt_cmpR op_eq (pe_ix ix_str (pv 0) (pv 2) (fun _ _ => rfl)) pe_str (nomark _))))) (pss_one ps_break) pss_nil))))
      (pss_one (ps_ret (pe_tup (pa_cons (pv 1) (pa_cons (pe_cmpR op_gt (pv 1) (pv 2) (nomark _)) pa_nil))))))), ?_⟩
    walk_at "go"
    have fin : ∀ i : Nat, nl (l.drop n) = i → ∀ σ H', σ = [some (.str (S l)), some (.int ((n + i : Nat) : Int)), some (.int (n : Int))] → H' = H → tRet (tTup (tCons (tVar 1) (tCons (tOp (rI0 fun i j => .bl (decide (j < i))) (tVar 1) (tVar 2)) tNil))) { nx := fun _ H' => Q .non H', rt := Q } σ H' := by
      rintro i hi σ H' rfl rfl
      walk_at "go"
      refine ⟨by walk_at "sz", ?_⟩
      intro p n_p
      generalize eq_H1 : upd H' p _ = H1
      have S_H1 : Same H' H1 := by rw [← eq_H1]; exact Same.new n_p
      have e_p := congrFun eq_H1 p
      rw [upd_same] at e_p
      have e_p := e_p.symm
      clear eq_H1
      refine k p H1 n_p S_H1 ?_
      rw [e_p, hi]
      rw [show decide ((n : Int) < ((n + i : Nat) : Int)) = decide (i ≠ 0) from decide_eq_decide.mpr (by omega)]
    refine g_while (fun m σ H' => ∃ i : Nat, m + i + n = l.length ∧ σ = [some (.str (S l)), some (.int ((n + i : Nat) : Int)), some (.int (n : Int))] ∧ H' = H ∧ (∀ j, j < i → ∃ c, l[n + j]? = some c ∧ dig c = true) ∧ (1 ≤ i → l[n]? ≠ some 48)) (l.length - n) ⟨0, by omega, rfl, rfl, fun j hj => absurd hj (Nat.not_lt_zero _), fun z => absurd z (by decide)⟩ ?_
    rintro m σ H' ⟨i, hm, rfl, rfl, hd, h0⟩
    walk_at "go"
    refine ⟨len_ok hl, ?_⟩
    rw [S_len]
    walk_at "go"
    refine ite2 (fun c1 => ?_) (fun c1 => ?_)
    · have c1 := of_decide_eq_true c1
      have hi : n + i < l.length := by omega
      walk_at "go"
      refine g_ixX (n := n + i) hl rfl (List.getElem?_eq_getElem hi) ?_
      walk_at "go"
      refine ⟨S [_], _, rfl, rfl, ?_⟩
      rw [in_figs]
      walk_at "go"
      refine ite2 (fun c2 => ?_) (fun c2 => ?_)
      · refine ⟨fun σ' H2 => ∃ m', m' < m ∧ ∃ i : Nat, m' + i + n = l.length ∧ σ' = [some (.str (S l)), some (.int ((n + i : Nat) : Int)), some (.int (n : Int))] ∧ H2 = H' ∧ (∀ j, j < i → ∃ c, l[n + j]? = some c ∧ dig c = true) ∧ (1 ≤ i → l[n]? ≠ some 48), fun σ' H2 h => h, ?_⟩
        walk_at "go"
        by_cases h1 : i = 0
        · subst h1
          have hn' : n < l.length := by omega
          have e0 : l[n]? = some l[n] := List.getElem?_eq_getElem hn'
          rw [show decide (V.int (((n + 0 : Nat) : Int) + 1) = V.int ((n : Int) + 1)) = true from decide_eq_true rfl]
          walk_at "go"
          refine g_ixX (n := n) hl rfl e0 ?_
          walk_at "go"
          rw [str0, d_str1]
          refine ite2 (fun c3 => ?_) (fun c3 => ?_)
          · have c3 := of_decide_eq_true c3
            refine fin 1 (nl_one (by rw [e0, c3])) _ _ ?_ rfl
            rfl
          · have c3 : l[n] ≠ 48 := fun z => c3 (decide_eq_true z)
            refine ⟨m - 1, by omega, 1, by omega, rfl, rfl, fun j hj => ?_, fun _ z => ?_⟩
            · obtain rfl : j = 0 := by omega
              exact ⟨_, e0, c2⟩
            · rw [e0] at z
              exact c3 (Option.some.inj z)
        · rw [show decide (V.int (((n + i : Nat) : Int) + 1) = V.int ((n : Int) + 1)) = false from decide_eq_false fun z => by have := V.int.inj z; omega]
          walk_at "go"
          refine ⟨m - 1, by omega, i + 1, by omega, rfl, rfl, fun j hj => ?_, fun _ => h0 (by omega)⟩
          by_cases hj2 : j < i
          · exact hd j hj2
          · obtain rfl : j = i := by omega
            exact ⟨_, List.getElem?_eq_getElem hi, c2⟩
      · refine fin i (nl_of hd h0 fun c e => ?_) _ _ rfl rfl
        rw [List.getElem?_eq_getElem hi] at e
        cases e
        exact Bool.eq_false_iff.mpr c2
    · have : n + i = l.length := by
        have : ¬ ((n + i : Nat) : Int) < (l.length : Int) := fun z => c1 (decide_eq_true z)
        omega
      exact fin i (nl_of hd h0 fun c e => by rw [List.getElem?_eq_none (by omega)] at e; cases e) _ _ rfl rfl
end
end My

set_option exponentiation.threshold 5000

namespace My
open PySem L2 Pre Sh Tx SX
def spShare (C CT : Addr) : Sp := fun vs H Q E => ∃ l : List Nat, vs = [.str (S l)] ∧ l.length ≤ 200 ∧
  (tcol l ≠ 0 → ∀ d H', H d = none → Same H H' → H' d = some (.xd (Up.fldsR ["line", "column"] [.int 1, .int (tcol l : Int)])) → E (.ref CT) (some d) H') ∧
  (tcol l = 0 → ∀ p t b H', Lst t b (vtop l) (vbot l) → H p = none → Same H H' → ShAt C H' p t b → Q (.ref p) H')
theorem take1 {l : List Nat} : decide (l.take 1 = [45]) = decide (l.head? = some 45) := by
  cases l with
  | nil => rfl
  | cons c r => simp
theorem g_xcT {C : Addr} {n : Nat} {a : Int} {H H1 : Hp} {Q : XK} (e : a = (n : Int)) (S1 : Same H H1) (k : ∀ d H', H d = none → Same H H' → H' d = some (.xd (Up.fldsR ["line", "column"] [.int 1, .int (n : Int)])) → Q (.ref C) (some d) H') :
    [V.int 1, V.int a].length ≤ 1000 ∧ ∀ a', H1 a' = none → Up.spXI C ["line", "column"] (.ref a' :: ([V.int 1, V.int a] ++ [])) (upd H1 a' (exo a' C none))
      (fun v H2 => v = .non ∧ ∃ (d : Addr) (fs : List (Str × V)), H2 a' = some (exo a' C (some d)) ∧ H2 d = some (exd d fs) ∧ H1 d = none ∧ Q (.ref C) (some d) (upd (del H2 a') d (.xd fs))) (fun _ _ _ => False) := by
  subst e
  exact Up.g_xc rfl (by decide) fun d H2 n1 S2 e2 => k d H2 (same_none S1 n1) (S1.trans S2) e2
section
variable {P : Program} {w : World} {K : PySem.W.Frag} {mg : Str → Option Value} {base : Heap} {C_Share C_BadNumber C_BadText : Addr}
theorem ok_share_of {f : Addr} {fd : FuncData} (F : Fun K "share_of" "share_of" s_share_of f fd) (T : Txt mg) (T_Share : Cl_Share K mg C_Share) (X_BadText : Up.XCal P w K mg base 1 "BadText" C_BadText ["line", "column"]) (C_number_end : Cal P w K mg base 1 "number_end" spEnd)
    (MK_Share : Own.MkC (L2.CX P w) P w K mg base 3 "Share" C_Share (spInit C_Share C_BadNumber) []) (MKd_Share : Own.MkC (L2.CX P w) P w K mg base 3 "Share" C_Share (spInit C_Share C_BadNumber) [.int 1]) : FnOk P w K mg base (L2.CX P w) 5 f fd ["text"] (spShare C_Share C_BadText) := by
  refine F.okX sc_share_of (fun vs H Q E h => ?_) (fun cdv A outer s H vs Q E hr h => ?_)
  · obtain ⟨l, rfl, _⟩ := h
    rfl
  · obtain ⟨l, rfl, hl, kE, kQ⟩ := h
    refine ⟨_, (pss_cons (ps_set (i := 1) sc_share_of.nd rfl (.inl rfl) (pe_ifExp (pt_cmpR op_eq (pe_slice C8.sl_txt (pv 0) po_none (po_some pe_int)) pe_str (nomark _)) pe_int pe_int))
      (pss_cons (ps_asg (pcal C_number_end hr (by decide) (by rfl) (pa_cons (pv 0) (pa_cons (pv 1) pa_nil))) (pg_tup rfl (pgs_cons (pg_name (i := 2) sc_share_of.nd rfl (.inl rfl)) (pgs_cons (pg_name (i := 3) sc_share_of.nd rfl (.inl rfl)) pgs_nil))))
      (Evl.pss_cut (ps_if (PW.pt (pw_or (pt_not (pt_val (pv 3))) (pw_or1 (PW.pt (pw_and (pt_cmpR op_eq (pv 1) pe_int (nomark _)) (pw_and1 (pt_cmpR op_eq (pe_ix ix_str (pv 0) pe_int (fun _ _ => rfl)) pe_str (nomark _)))))))) (pss_one (ps_raise rfl (takes_of rfl rfl rfl rfl) (Up.pmk_xc X_BadText hr (by decide) (by rfl) (pa_cons pe_int (pa_cons (pe_op op_add (pv 1) pe_int) pa_nil))))) pss_nil)
      (pss_cons (ps_if (pt_cmpR op_eq (pv 2) (pe_callB call_len_str (by rfl) T.b_len PySem.boot_len (pa_cons (pv 0) pa_nil)) (nomark _)) (pss_one (ps_ret (Own.pmakeS MKd_Share (takes_of rfl rfl rfl rfl) hr (by decide) (by rfl) (pa_cons (pe_callTy call_int_str (by rfl) T.b_int (by decide +kernel) (pa_cons (pv 0) pa_nil)) pa_nil)))) pss_nil)
      (pss_cons (ps_if (pt_cmpR op_ne (pe_ix ix_str (pv 0) (pv 2) (fun _ _ => rfl)) pe_str (nomark _)) (pss_one (ps_raise rfl (takes_of rfl rfl rfl rfl) (Up.pmk_xc X_BadText hr (by decide) (by rfl) (pa_cons pe_int (pa_cons (pe_op op_add (pv 2) pe_int) pa_nil))))) pss_nil)
      (pss_cons (ps_asg (pcal C_number_end hr (by decide) (by rfl) (pa_cons (pv 0) (pa_cons (pe_op op_add (pv 2) pe_int) pa_nil))) (pg_tup rfl (pgs_cons (pg_name (i := 4) sc_share_of.nd rfl (.inl rfl)) (pgs_cons (pg_name (i := 3) sc_share_of.nd rfl (.inl rfl)) pgs_nil))))
      (Evl.pss_cut (ps_if (PW.pt (pw_or (pt_not (pt_val (pv 3))) (pw_or1 (pt_cmpR op_eq (pe_ix ix_str (pv 0) (pe_op op_add (pv 2) pe_int) (fun _ _ => rfl)) pe_str (nomark _))))) (pss_one (ps_raise rfl (takes_of rfl rfl rfl rfl) (Up.pmk_xc X_BadText hr (by decide) (by rfl) (pa_cons pe_int (pa_cons (pe_op op_add (pv 2) pe_int) pa_nil))))) pss_nil)
      (pss_cons (ps_if (pt_cmpR op_lt (pv 4) (pe_callB call_len_str (by rfl) T.b_len PySem.boot_len (pa_cons (pv 0) pa_nil)) (nomark _)) (pss_one (ps_raise rfl (takes_of rfl rfl rfl rfl) (Up.pmk_xc X_BadText hr (by decide) (by rfl) (pa_cons pe_int (pa_cons (pe_op op_add (pv 4) pe_int) pa_nil))))) pss_nil)
      (pss_one (ps_ret (Own.pmakeS MK_Share (takes_of rfl rfl rfl rfl) hr (by decide) (by rfl) (pa_cons (pe_callTy call_int_str (by rfl) T.b_int (by decide +kernel) (pa_cons (pe_slice C8.sl_txt (pv 0) po_none (po_some (pv 2))) pa_nil)) (pa_cons (pe_callTy call_int_str (by rfl) T.b_int (by decide +kernel) (pa_cons (pe_slice C8.sl_txt (pv 0) (po_some (pe_op op_add (pv 2) pe_int)) po_none) pa_nil)) pa_nil))))))))))))), ?_⟩
    walk_at "go"
    refine g_slX hl (slice_to (i := 1) (by decide)) ?_
    walk_at "go"
    rw [strMi, d_str]
    refine g_join (fun v H' => v = .int (st l : Int) ∧ H' = H) (fun c Q' hQ' => ?_) (fun c Q' hQ' => ?_) (fun v H' ⟨e1, e2⟩ => ?_)
    · walk_at "go"
      refine hQ' _ _ ⟨?_, rfl⟩
      unfold st
      rw [if_pos (of_decide_eq_true (take1.symm.trans c))]
      rfl
    · walk_at "go"
      refine hQ' _ _ ⟨?_, rfl⟩
      unfold st
      rw [if_neg (fun z => c (take1.trans (decide_eq_true z)))]
      rfl
    subst e1 e2
    walk_at "go"
    refine ⟨l, st l, rfl, hl, st_len l, fun p H1 np S1 ep => ?_⟩
    walk_at "go"
    refine g_gtup (SqT.of ep) rfl ?_
    walk_at "go"
    have hE : ∀ {n : Nat} {a : Int} {H2 : Hp}, tcol l = n → n ≠ 0 → a = (n : Int) → Same H' H2 → _ := fun {n a H2} e1 e2 e3 S2 => g_xcT (C := C_BadText) (n := n) (a := a) (H := H') (H1 := H2) (Q := E) e3 S2 (by subst e1; exact kE e2)
    refine g_cut (fun σ' H2 => σ' = [some (.str (S l)), some (.int (st l : Int)), some (.int (at1 l : Int)), some (.bl true), none] ∧ H2 = H1 ∧ nl (l.drop (st l)) ≠ 0 ∧ ¬ (st l = 1 ∧ l[1]? = some 48)) ?_ ?_
    · walk_at "go"
      by_cases hz : nl (l.drop (st l)) = 0
      · rw [show decide (nl (l.drop (st l)) ≠ 0) = false from decide_eq_false fun z => z hz]
        walk_at "go"
        exact hE (n := st l + 1) (if_pos (.inl hz)) (by omega) (by omega) S1
      · rw [show decide (nl (l.drop (st l)) ≠ 0) = true from decide_eq_true hz]
        walk_at "go"
        by_cases hs : st l = 1
        · rw [show decide (V.int (st l : Int) = V.int 1) = true from decide_eq_true (by rw [hs]; rfl)]
          walk_at "go"
          have h1 : 1 < l.length := by
            have := nl_le (l.drop (st l))
            rw [List.length_drop] at this
            omega
          refine g_ixX (n := 1) hl rfl (List.getElem?_eq_getElem h1) ?_
          walk_at "go"
          rw [str0, d_str1]
          refine ite2 (fun c3 => ?_) (fun c3 => ?_)
          · have c3 := of_decide_eq_true c3
            walk_at "go"
            exact hE (n := st l + 1) (if_pos (.inr ⟨hs, by rw [List.getElem?_eq_getElem h1, c3]⟩)) (by omega) (by omega) S1
          · walk_at "go"
            refine ⟨rfl, rfl, hz, fun z => c3 (decide_eq_true ?_)⟩
            have := z.2
            rw [List.getElem?_eq_getElem h1] at this
            exact Option.some.inj this
        · rw [show decide (V.int (st l : Int) = V.int 1) = false from decide_eq_false fun z => hs (by have := V.int.inj z; omega)]
          walk_at "go"
          exact ⟨rfl, rfl, hz, fun z => hs z.1⟩
    rintro σ' H2 ⟨rfl, rfl, hz, hz2⟩
    have hc0 : ∀ {x : Nat}, (if at1 l = l.length then 0 else if l[at1 l]? ≠ some 47 then at1 l + 1 else if nl (l.drop (at1 l + 1)) = 0 ∨ l[at1 l + 1]? = some 48 then at1 l + 2 else if at2 l < l.length then at2 l + 1 else 0) = x → tcol l = x := fun e => (if_neg (fun z => z.elim hz hz2)).trans e
    obtain ⟨it, bt⟩ := int_top hl hz
    walk_at "go"
    refine ⟨len_ok hl, ?_⟩
    rw [S_len]
    walk_at "go"
    refine ite2 (fun c1 => ?_) (fun c1 => ?_)
    · have c1 : at1 l = l.length := by have := V.int.inj (of_decide_eq_true c1); omega
      have et : l.take (at1 l) = l := by rw [c1, List.take_length]
      rw [et] at it
      walk_at "go"
      refine ⟨_, _, rfl, it, by rw [S_len]; omega, ?_⟩
      walk_at "go"
      refine g_sh1 bt fun q t b H3 hL nq S3 es => kQ (hc0 (if_pos c1)) q t b H3 ?_ (same_none S1 nq) (S1.trans S3) es
      unfold vbot
      rw [if_pos c1]
      exact hL
    have c1 : at1 l ≠ l.length := fun z => c1 (decide_eq_true (congrArg V.int (congrArg Nat.cast z)))
    have hat : at1 l < l.length := by have := at1_le l; omega
    have hc1 : ∀ {x : Nat}, (if l[at1 l]? ≠ some 47 then at1 l + 1 else if nl (l.drop (at1 l + 1)) = 0 ∨ l[at1 l + 1]? = some 48 then at1 l + 2 else if at2 l < l.length then at2 l + 1 else 0) = x → tcol l = x := fun e => hc0 ((if_neg c1).trans e)
    walk_at "go"
    refine g_ixX (n := at1 l) hl rfl (List.getElem?_eq_getElem hat) ?_
    walk_at "go"
    rw [strSl, d_str1]
    by_cases c2 : l[at1 l] = 47
    · rw [decide_eq_true c2]
      have e2 : l[at1 l]? = some 47 := by rw [List.getElem?_eq_getElem hat, c2]
      have hc2 : ∀ {x : Nat}, (if nl (l.drop (at1 l + 1)) = 0 ∨ l[at1 l + 1]? = some 48 then at1 l + 2 else if at2 l < l.length then at2 l + 1 else 0) = x → tcol l = x := fun e => hc1 ((if_neg (fun z => z e2)).trans e)
      walk_at "go"
      refine ⟨l, at1 l + 1, rfl, hl, by omega, fun p2 H3 np2 S3 ep2 => ?_⟩
      have S13 := S1.trans S3
      walk_at "go"
      refine g_gtup (SqT.of ep2) rfl ?_
      walk_at "go"
      refine g_cut (fun σ' H4 => σ' = [some (.str (S l)), some (.int (st l : Int)), some (.int (at1 l : Int)), some (.bl true), some (.int (at2 l : Int))] ∧ H4 = H3 ∧ nl (l.drop (at1 l + 1)) ≠ 0 ∧ l[at1 l + 1]? ≠ some 48) ?_ ?_
      · walk_at "go"
        by_cases h2 : nl (l.drop (at1 l + 1)) = 0
        · rw [show decide (nl (l.drop (at1 l + 1)) ≠ 0) = false from decide_eq_false fun z => z h2]
          walk_at "go"
          exact hE (n := at1 l + 2) (hc2 (if_pos (.inl h2))) (by omega) (by omega) S13
        · rw [show decide (nl (l.drop (at1 l + 1)) ≠ 0) = true from decide_eq_true h2]
          walk_at "go"
          have h3 : at1 l + 1 < l.length := by
            have := nl_le (l.drop (at1 l + 1))
            rw [List.length_drop] at this
            omega
          refine g_ixX (n := at1 l + 1) hl (by omega) (List.getElem?_eq_getElem h3) ?_
          walk_at "go"
          rw [str0, d_str1]
          refine ite2 (fun c3 => ?_) (fun c3 => ?_)
          · have c3 := of_decide_eq_true c3
            walk_at "go"
            exact hE (n := at1 l + 2) (hc2 (if_pos (.inr (by rw [List.getElem?_eq_getElem h3, c3])))) (by omega) (by omega) S13
          · walk_at "go"
            refine ⟨rfl, rfl, h2, fun z => c3 (decide_eq_true ?_)⟩
            rw [List.getElem?_eq_getElem h3] at z
            exact Option.some.inj z
      rintro σ' H4 ⟨rfl, rfl, h2, h3⟩
      have hc3 : ∀ {x : Nat}, (if at2 l < l.length then at2 l + 1 else 0) = x → tcol l = x := fun e => hc2 ((if_neg (fun z => z.elim h2 h3)).trans e)
      walk_at "go"
      refine ⟨len_ok hl, ?_⟩
      rw [S_len]
      walk_at "go"
      refine ite2 (fun c4 => ?_) (fun c4 => ?_)
      · have c4 : at2 l < l.length := by have := of_decide_eq_true c4; omega
        walk_at "go"
        exact hE (n := at2 l + 1) (hc3 (if_pos c4)) (by omega) (by omega) S13
      · have c4 : ¬ at2 l < l.length := fun z => c4 (decide_eq_true (by omega))
        obtain ⟨ib, bb, nb⟩ := int_bot hl c1 h2 h3 c4
        walk_at "go"
        refine g_slX hl (slice_to (i := (at1 l : Int)) (by omega)) ?_
        rw [Int.toNat_natCast]
        walk_at "go"
        refine ⟨_, _, rfl, it, by rw [S_len, List.length_take]; omega, ?_⟩
        walk_at "go"
        refine g_slX hl (slice_from (i := (at1 l : Int) + 1) (by omega)) ?_
        rw [show ((at1 l : Int) + 1).toNat = at1 l + 1 by omega]
        walk_at "go"
        refine ⟨_, _, rfl, ib, by rw [S_len, List.length_drop]; omega, ?_⟩
        walk_at "go"
        exact g_sh bt bb nb fun q t b H5 hL nq S5 es => kQ (hc3 (if_neg c4)) q t b H5 hL (same_none S13 nq) (S13.trans S5) es
    · rw [decide_eq_false c2]
      have e2 : l[at1 l]? ≠ some 47 := fun z => by rw [List.getElem?_eq_getElem hat] at z; exact c2 (Option.some.inj z)
      walk_at "go"
      exact hE (n := at1 l + 1) (hc1 (if_pos e2)) (by omega) (by omega) S1
end
end My

set_option exponentiation.threshold 5000

namespace My
open PySem L2 Pre Sh Tx SX
/-! ### more of the plain law -/
def dg (l : List Nat) (n : Nat) : Bool := match l[n]? with
  | some c => dig c
  | none => false
theorem dg_some {l : List Nat} {n : Nat} (h : dg l n = true) : ∃ c, l[n]? = some c ∧ dig c = true := by
  unfold dg at h
  split at h
  · rename_i c e
    exact ⟨c, e, h⟩
  · cases h
theorem dg_none {l : List Nat} {n : Nat} (h : dg l n = false) : ∀ c, l[n]? = some c → dig c = false := by
  intro c e
  unfold dg at h
  rw [e] at h
  exact h
theorem nl_dg {l : List Nat} {n : Nat} : nl (l.drop n) = 0 ↔ dg l n = false := by
  constructor
  · intro h
    cases hd : dg l n with
    | false => rfl
    | true =>
      exfalso
      obtain ⟨c, e, hc⟩ := dg_some hd
      by_cases h48 : c = 48
      · subst h48
        have := nl_one e
        omega
      · have e0 : (l.drop n)[0]? = some c := by rw [List.getElem?_drop, Nat.add_zero]; exact e
        cases hr : l.drop n with
        | nil => rw [hr] at e0; cases e0
        | cons d r =>
          rw [hr] at e0 h
          cases e0
          rw [nl_cons, if_neg h48, List.takeWhile_cons, if_pos hc] at h
          cases h
  · intro h
    exact nl_of (i := 0) (fun j hj => absurd hj (Nat.not_lt_zero _)) (fun z => absurd z (by decide)) (dg_none h)
theorem in_sgs {cs r : List Nat} : inV (.str (S r)) (sgs cs) = cs.any fun c => decide ([c] = r) := by
  unfold inV sgs
  rw [List.any_map]
  congr 1
  funext c
  show (S [c] == S r) = _
  exact S_beq_eq
theorem flat_sgs {cs : List Nat} : (sgs cs).all flatV = true := by
  unfold sgs
  rw [List.all_map, List.all_eq_true]
  intro c _
  rfl
theorem take_one {l : List Nat} {n : Nat} : (l.drop n).take 1 = (match l[n]? with | some c => [c] | none => []) := by
  have e0 : (l.drop n)[0]? = l[n]? := by rw [List.getElem?_drop, Nat.add_zero]
  cases hr : l.drop n with
  | nil => rw [hr] at e0; rw [← e0]; rfl
  | cons d r => rw [hr] at e0; rw [← e0]; rfl
theorem any_one {cs : List Nat} {l : List Nat} {n : Nat} : (cs.any fun c => decide ([c] = (l.drop n).take 1)) = (match l[n]? with | some d => decide (d ∈ cs) | none => false) := by
  rw [take_one]
  cases l[n]? with
  | none => simp
  | some d =>
    show (cs.any fun c => decide ([c] = [d])) = decide (d ∈ cs)
    rw [show (fun c => decide ([c] = [d])) = fun c => decide (c = d) from funext fun c => decide_eq_decide.mpr ⟨fun h => (List.cons.inj h).1, fun h => by rw [h]⟩]
    by_cases h : d ∈ cs
    · rw [decide_eq_true h, List.any_eq_true]
      exact ⟨d, h, decide_eq_true rfl⟩
    · rw [decide_eq_false h, List.any_eq_false]
      intro c hc z
      exact h (by rw [← of_decide_eq_true z]; exact hc)
theorem in_dg {l : List Nat} {n : Nat} : inV (.str (S ((l.drop n).take 1))) (sgs ("0123456789" : Str).cps.toList) = dg l n := by
  rw [in_sgs, any_one]
  unfold dg
  cases l[n]? with
  | none => rfl
  | some d => exact mem_figs d
theorem figs1 : ("123456789" : Str).cps.toList = [49, 50, 51, 52, 53, 54, 55, 56, 57] := by decide +kernel
theorem in_dg1 {l : List Nat} {n : Nat} : inV (.str (S ((l.drop n).take 1))) (sgs ("123456789" : Str).cps.toList) = (dg l n && decide (l[n]? ≠ some 48)) := by
  rw [in_sgs, any_one, figs1]
  unfold dg
  cases l[n]? with
  | none => rfl
  | some d =>
    show decide (d ∈ _) = (dig d && decide (some d ≠ some 48))
    by_cases h : 49 ≤ d ∧ d ≤ 57
    · rw [dig_iff.mpr (by omega), decide_eq_true (show some d ≠ some 48 from fun z => by have := Option.some.inj z; omega)]
      refine decide_eq_true ?_
      have h2 : d = 49 ∨ d = 50 ∨ d = 51 ∨ d = 52 ∨ d = 53 ∨ d = 54 ∨ d = 55 ∨ d = 56 ∨ d = 57 := by omega
      rcases h2 with h | h | h | h | h | h | h | h | h <;> subst h <;> decide
    · rw [decide_eq_false (p := d ∈ _) fun z => h (by
        simp only [List.mem_cons, List.not_mem_nil, or_false] at z
        omega)]
      symm
      rw [Bool.and_eq_false_iff]
      by_cases hd : dig d = true
      · have := dig_iff.mp hd
        obtain rfl : d = 48 := by omega
        exact .inr (by simp)
      · exact .inl (Bool.eq_false_iff.mpr hd)
theorem st_i {l : List Nat} : (if decide (l.take 1 = [45]) = true then (1 : Int) else 0) = (st l : Int) := by
  unfold st
  rw [take1]
  by_cases h : l.head? = some 45
  · rw [decide_eq_true h, if_pos rfl, if_pos h]; rfl
  · rw [decide_eq_false h, if_neg (by decide), if_neg h]; rfl
def spWritten (C : Addr) : Sp := fun vs H Q _ => ∃ a t b, vs = [.ref a] ∧ ShAt C H a t b ∧ Bd 300 t ∧ Bd 300 b ∧ Q (.str (S (if b = 1 then ztx t else ztx t ++ [47] ++ ztx b))) H
def spCol : Sp := fun vs H Q _ => ∃ l : List Nat, vs = [.str (S l)] ∧ l.length ≤ 200 ∧ ∀ H', Same H H' → Q (.int (tcol l : Int)) H'
theorem ztx_len {i : Int} (h : Bd 300 i) : (ztx i).length ≤ 101 := by
  have h1 : (TL.numL i.natAbs).length ≤ 100 := TL.numL_len (by decide) (Nat.lt_of_lt_of_le h (by decide))
  unfold ztx
  split
  · rw [List.length_cons]; omega
  · omega
section
variable {P : Program} {w : World} {K : PySem.W.Frag} {mg : Str → Option Value} {base : Heap} {C_Share C_BadNumber C_BadText : Addr}
theorem ok_Share_written {f : Addr} {fd : FuncData} (F : Fun K "written" "Share.written" s_Share_written f fd) (T : Txt mg) (T_Share : Cl_Share K mg C_Share) : FnOk P w K mg base CX0 1 f fd ["self"] (spWritten C_Share) := by
  refine F.ok sc_Share_written (fun vs H Q E h => ?_) (fun cdv A outer s H vs Q E hr h => ?_)
  · obtain ⟨a, t, b, rfl, _⟩ := h
    rfl
  · obtain ⟨a, t, b, rfl, sh, bt, bb, k⟩ := h
    refine ⟨_, (pss_one (ps_ret (pe_ifExp (pt_cmpR op_eq (pe_fld (pv 0) rfl) pe_int (nomark _)) (pe_callTy call_str_int (by rfl) T.b_str (by decide +kernel) (pa_cons (pe_fld (pv 0) rfl) pa_nil)) (pe_op op_add_str (pe_op op_add_str (pe_callTy call_str_int (by rfl) T.b_str (by decide +kernel) (pa_cons (pe_fld (pv 0) rfl) pa_nil)) pe_str) (pe_callTy call_str_int (by rfl) T.b_str (by decide +kernel) (pa_cons (pe_fld (pv 0) rfl) pa_nil)))))), ?_⟩
    have lt : t.natAbs.log2 < 1920 := Nat.lt_of_lt_of_le (PySem.Flt.log2_lt_of (by decide) bt) (by decide)
    have lb : b.natAbs.log2 < 1920 := Nat.lt_of_lt_of_le (PySem.Flt.log2_lt_of (by decide) bb) (by decide)
    have l1 := ztx_len bt
    have l2 := ztx_len bb
    walk_at "go"
    refine g_bot T_Share sh ?_
    walk_at "go"
    by_cases hb : b = 1
    · rw [if_pos hb] at k
      rw [decide_eq_true (congrArg V.int hb)]
      walk_at "go"
      refine g_top T_Share sh ?_
      walk_at "go"
      refine ⟨lt, ?_⟩
      rw [int_tx]
      exact k
    · rw [if_neg hb] at k
      rw [decide_eq_false fun z => hb (V.int.inj z)]
      walk_at "go"
      refine g_top T_Share sh ?_
      walk_at "go"
      refine ⟨lt, ?_⟩
      rw [int_tx]
      walk_at "go"
      rw [strSl]
      refine ⟨_, _, rfl, rfl, by rw [S_len, S_len]; exact Nat.le_of_lt (small1000 (by simp; omega)), ?_⟩
      rw [S_cat]
      walk_at "go"
      refine g_bot T_Share sh ?_
      walk_at "go"
      refine ⟨lb, ?_⟩
      rw [int_tx]
      refine ⟨_, _, rfl, rfl, by rw [S_len, S_len]; exact Nat.le_of_lt (small1000 (by simp; omega)), ?_⟩
      rw [S_cat]
      exact k
theorem ok_L_told_column {f : Addr} {fd : FuncData} (F : Fun K "_law_told_column" "_law_told_column" s_L_told_column f fd) (T : Txt mg) (X_BadText : Up.XCal P w K mg base 1 "BadText" C_BadText ["line", "column"]) (exm_BadText_BadText : PySem.W.exmOne K (.ref C_BadText) (.ref C_BadText) = some true)
    (C_share_of : Own.RCal P w K mg base 5 "share_of" (spShare C_Share C_BadText)) : FnOk P w K mg base CX0 6 f fd ["_law_text"] spCol := by
  refine F.ok sc_L_told_column (fun vs H Q E h => ?_) (fun cdv A outer s H vs Q E hr h => ?_)
  · obtain ⟨l, rfl, _⟩ := h
    rfl
  · obtain ⟨l, rfl, hl, k⟩ := h
    refine ⟨_, (pss_cons (Up.ps_try_hds rfl rfl takes0 (fun W pn xe tk hp => (pss_one (ps_expr (Own.rcalS C_share_of hr (by decide) tk (by rfl) (pa_cons (pv 0) pa_nil))))) (Up.Hds.as (i := 1) sc_L_told_column.nd rfl rfl ⟨by rfl, by decide, .inl X_BadText.gl⟩ (fun a oe cls d pn hz hf => (pss_one (ps_ret (pe_ifExp (pt_cmpR op_eq (pe_xf X_BadText.xf (X_BadText.no "line" (by simp)) hz hf (pv 1)) pe_int (nomark _)) (pe_xf X_BadText.xf (X_BadText.no "column" (by simp)) hz hf (pv 1)) (pe_un un_neg pe_int))))) Up.Hds.nil))
      (pss_one (ps_ret pe_int))), ?_⟩
    walk_at "go"
    refine ⟨l, rfl, hl, fun hc d H1 nd S1 ed => ?_, fun hc p t b H1 hL np S1 es => ?_⟩
    · refine ⟨true, exm_BadText_BadText, fun _ a na => ?_, fun z => nomatch z⟩
      have nd2 : (["line", "column"] : List Str).Nodup := by decide +kernel
      walk_at "go"
      refine ⟨rfl, rfl, d, _, _, rfl, ed, Up.fld_at 0 nd2 rfl rfl, ?_⟩
      walk_at "go"
      rw [decide_eq_true rfl]
      walk_at "go"
      exact ⟨rfl, rfl, d, _, _, rfl, ed, Up.fld_at 1 nd2 rfl rfl, k H1 S1⟩
    · walk_at "go"
      rw [hc] at k
      exact k _ S1
theorem ok_L_wrong_column {f : Addr} {fd : FuncData} (F : Fun K "_law_wrong_column" "_law_wrong_column" s_L_wrong_column f fd) (T : Txt mg) : FnOk P w K mg base CX0 1 f fd ["_law_text"] spCol := by
  refine F.ok sc_L_wrong_column (fun vs H Q E h => ?_) (fun cdv A outer s H vs Q E hr h => ?_)
  · obtain ⟨l, rfl, _⟩ := h
    rfl
  · obtain ⟨l, rfl, hl, k⟩ := h
    refine ⟨_, (pss_cons (ps_set (i := 1) sc_L_wrong_column.nd rfl (.inl rfl) (pe_callTy call_int1 (by rfl) T.b_int (by decide +kernel) (pa_cons (pe_cmpR op_eq (pe_slice C8.sl_txt (pv 0) po_none (po_some pe_int)) pe_str (nomark _)) pa_nil)))
      (Evl.pss_cut (ps_if (PW.pt (pw_or (pt_cmpR op_notIn_seq (pe_slice C8.sl_txt (pv 0) (po_some (pv 1)) (po_some (pe_op op_add (pv 1) pe_int))) (pe_callTy (Tx.call_tupS rfl) (by rfl) T.b_tuple (by decide +kernel) (pa_cons pe_str pa_nil)) (by rfl)) (pw_or1 (PW.pt (pw_and (pt_cmpR op_eq (pv 1) pe_int (nomark _)) (pw_and1 (pt_cmpR op_eq (pe_ix ix_str (pv 0) pe_int (fun _ _ => rfl)) pe_str (nomark _)))))))) (pss_one (ps_ret (pe_op op_add (pv 1) pe_int))) pss_nil)
      (pss_cons (ps_set (i := 2) sc_L_wrong_column.nd rfl (.inl rfl) (pe_op op_add (pv 1) pe_int))
      (Evl.pss_cut (ps_while PassesOwn.never (PW.pt (pw_and (pt_cmpR op_ne (pe_ix ix_str (pv 0) (pv 1) (fun _ _ => rfl)) pe_str (nomark _)) (pw_and (pt_cmpR op_lt (pv 2) (pe_callB call_len_str (by rfl) T.b_len PySem.boot_len (pa_cons (pv 0) pa_nil)) (nomark _)) (pw_and1 (pt_cmpR op_in_str (pe_ix ix_str (pv 0) (pv 2) (fun _ _ => rfl)) pe_str (by rfl)))))) (pss_one (ps_set (i := 2) sc_L_wrong_column.nd rfl (.inl rfl) (pe_op op_add (pv 2) pe_int))))
      (pss_cons (ps_if (pt_cmpR op_eq (pv 2) (pe_callB call_len_str (by rfl) T.b_len PySem.boot_len (pa_cons (pv 0) pa_nil)) (nomark _)) (pss_one (ps_ret pe_int)) pss_nil)
      (Evl.pss_cut (ps_if (PW.pt (pw_or (pt_cmpR op_ne (pe_ix ix_str (pv 0) (pv 2) (fun _ _ => rfl)) pe_str (nomark _)) (pw_or1 (pt_cmpR op_notIn_seq (pe_slice C8.sl_txt (pv 0) (po_some (pe_op op_add (pv 2) pe_int)) (po_some (pe_op op_add (pv 2) pe_int))) (pe_callTy (Tx.call_tupS rfl) (by rfl) T.b_tuple (by decide +kernel) (pa_cons pe_str pa_nil)) (by rfl))))) (pss_one (ps_ret (pe_op op_add (pe_op op_add (pv 2) pe_int) (pe_callTy call_int1 (by rfl) T.b_int (by decide +kernel) (pa_cons (pe_cmpR op_eq (pe_ix ix_str (pv 0) (pv 2) (fun _ _ => rfl)) pe_str (nomark _)) pa_nil))))) pss_nil)
      (pss_cons (ps_set (i := 2) sc_L_wrong_column.nd rfl (.inl rfl) (pe_op op_add (pv 2) pe_int))
      (Evl.pss_cut (ps_while PassesOwn.never (PW.pt (pw_and (pt_cmpR op_lt (pv 2) (pe_callB call_len_str (by rfl) T.b_len PySem.boot_len (pa_cons (pv 0) pa_nil)) (nomark _)) (pw_and1 (pt_cmpR op_in_str (pe_ix ix_str (pv 0) (pv 2) (fun _ _ => rfl)) pe_str (by rfl))))) (pss_one (ps_set (i := 2) sc_L_wrong_column.nd rfl (.inl rfl) (pe_op op_add (pv 2) pe_int))))
      (pss_one (ps_ret (pe_ifExp (pt_cmpR op_eq (pv 2) (pe_callB call_len_str (by rfl) T.b_len PySem.boot_len (pa_cons (pv 0) pa_nil)) (nomark _)) pe_int (pe_op op_add (pv 2) pe_int)))))))))))), ?_⟩
    walk_at "go"
    refine g_slX hl (slice_to (i := 1) (by decide)) ?_
    walk_at "go"
    rw [strMi, d_str, show (1 : Int).toNat = 1 from rfl, st_i]
    refine g_cut (fun σ' H' => σ' = [some (.str (S l)), some (.int (st l : Int)), none] ∧ Same H H' ∧ dg l (st l) = true ∧ ¬ (st l = 1 ∧ l[1]? = some 48)) ?_ ?_
    · walk_at "go"
      refine g_slX hl (slice_one (i := st l) rfl rfl) ?_
      walk_at "go"
      refine ⟨by decide, ?_⟩
      intro p n_p
      generalize eq_H1 : upd H p _ = H1
      have S_H1 : Same H H1 := by rw [← eq_H1]; exact Same.new n_p
      have e_p := congrFun eq_H1 p
      rw [upd_same] at e_p
      have e_p := e_p.symm
      clear eq_H1
      refine ⟨p, _, rfl, .inr (SqT.of e_p), rfl, flat_sgs, ?_⟩
      rw [in_dg]
      cases hz : dg l (st l) with
      | false =>
        walk_at "go"
        have := k H1 S_H1
        rw [show tcol l = st l + 1 from if_pos (.inl (nl_dg.mpr hz))] at this
        exact this
      | true =>
        have hz0 : nl (l.drop (st l)) ≠ 0 := fun z => by rw [nl_dg.mp z] at hz; cases hz
        walk_at "go"
        by_cases hs : st l = 1
        · rw [show decide (V.int (st l : Int) = V.int 1) = true from decide_eq_true (by rw [hs]; rfl)]
          walk_at "go"
          have h1 : 1 < l.length := by
            obtain ⟨c, e, _⟩ := dg_some hz
            rw [hs] at e
            exact (List.getElem?_eq_some_iff.mp e).1
          refine g_ixX (n := 1) hl rfl (List.getElem?_eq_getElem h1) ?_
          walk_at "go"
          rw [str0, d_str1]
          refine ite2 (fun c3 => ?_) (fun c3 => ?_)
          · have c3 := of_decide_eq_true c3
            walk_at "go"
            have := k H1 S_H1
            rw [show tcol l = st l + 1 from if_pos (.inr ⟨hs, by rw [List.getElem?_eq_getElem h1, c3]⟩)] at this
            exact this
          · walk_at "go"
            refine ⟨rfl, S_H1, rfl, fun z => c3 (decide_eq_true ?_)⟩
            have := z.2
            rw [List.getElem?_eq_getElem h1] at this
            exact Option.some.inj this
        · rw [show decide (V.int (st l : Int) = V.int 1) = false from decide_eq_false fun z => hs (by have := V.int.inj z; omega)]
          walk_at "go"
          exact ⟨rfl, S_H1, rfl, fun z => hs z.1⟩
    rintro σ' H1 ⟨rfl, S1, hz, hz2⟩
    have hz0 : nl (l.drop (st l)) ≠ 0 := fun z => by rw [nl_dg.mp z] at hz; cases hz
    have hc0 : ∀ {x : Nat}, (if at1 l = l.length then 0 else if l[at1 l]? ≠ some 47 then at1 l + 1 else if nl (l.drop (at1 l + 1)) = 0 ∨ l[at1 l + 1]? = some 48 then at1 l + 2 else if at2 l < l.length then at2 l + 1 else 0) = x → tcol l = x := fun e => (if_neg (fun z => z.elim hz0 hz2)).trans e
    obtain ⟨c0, e0, d0⟩ := dg_some hz
    have hst : st l < l.length := (List.getElem?_eq_some_iff.mp e0).1
    walk_at "go"
    refine g_cut (fun σ' H' => σ' = [some (.str (S l)), some (.int (st l : Int)), some (.int (at1 l : Int))] ∧ H' = H1) ?_ ?_
    · walk_at "go"
      have fin : ∀ (i : Nat), nl (l.drop (st l)) = i + 1 → ∀ a : Int, a = ((st l + 1 + i : Nat) : Int) → [some (V.str (S l)), some (.int (st l : Int)), some (.int a)] = [some (V.str (S l)), some (.int (st l : Int)), some (.int (at1 l : Int))] := fun i hi a ea => by
        have : a = (at1 l : Int) := by unfold at1; omega
        rw [this]
      refine g_while (fun m σ H' => ∃ i : Nat, m + i + 1 + st l = l.length ∧ σ = [some (.str (S l)), some (.int (st l : Int)), some (.int ((st l + 1 + i : Nat) : Int))] ∧ H' = H1 ∧ (∀ j, j < i + 1 → ∃ c, l[st l + j]? = some c ∧ dig c = true) ∧ (1 ≤ i → c0 ≠ 48)) (l.length - st l - 1) ⟨0, by omega, rfl, rfl, fun j hj => ⟨c0, by rw [show j = 0 by omega]; exact e0, d0⟩, fun z => absurd z (by decide)⟩ ?_
      rintro m σ H' ⟨i, hm, rfl, rfl, hd, h0⟩
      walk_at "go"
      refine g_ixX (n := st l) hl rfl e0 ?_
      walk_at "go"
      rw [str0, d_str1]
      by_cases h48 : c0 = 48
      · rw [decide_eq_true h48]
        walk_at "go"
        have hi0 : i = 0 := Nat.eq_zero_of_not_pos fun z => h0 z h48
        subst hi0
        exact ⟨fin 0 (nl_one (by rw [e0, h48])) _ rfl, rfl⟩
      · rw [decide_eq_false h48]
        walk_at "go"
        refine ⟨len_ok hl, ?_⟩
        rw [S_len]
        walk_at "go"
        refine ite2 (fun c1 => ?_) (fun c1 => ?_)
        · have hi : st l + 1 + i < l.length := by have := of_decide_eq_true c1; omega
          walk_at "go"
          refine g_ixX (n := st l + 1 + i) hl rfl (List.getElem?_eq_getElem hi) ?_
          walk_at "go"
          refine ⟨S [_], _, rfl, rfl, ?_⟩
          rw [in_figs]
          walk_at "go"
          refine ite2 (fun c2 => ?_) (fun c2 => ?_)
          · refine ⟨fun σ' H2 => ∃ m', m' < m ∧ ∃ i : Nat, m' + i + 1 + st l = l.length ∧ σ' = [some (.str (S l)), some (.int (st l : Int)), some (.int ((st l + 1 + i : Nat) : Int))] ∧ H2 = H' ∧ (∀ j, j < i + 1 → ∃ c, l[st l + j]? = some c ∧ dig c = true) ∧ (1 ≤ i → c0 ≠ 48), fun σ' H2 h => h, ?_⟩
            walk_at "go"
            refine ⟨m - 1, by omega, i + 1, by omega, rfl, rfl, fun j hj => ?_, fun _ => h48⟩
            by_cases hj2 : j < i + 1
            · exact hd j hj2
            · obtain rfl : j = i + 1 := by omega
              exact ⟨_, by rw [show st l + (i + 1) = st l + 1 + i by omega]; exact List.getElem?_eq_getElem hi, c2⟩
          · refine ⟨fin i (nl_of hd (fun _ z => by rw [e0] at z; exact h48 (Option.some.inj z)) fun c e => ?_) _ rfl, rfl⟩
            rw [show st l + (i + 1) = st l + 1 + i by omega, List.getElem?_eq_getElem hi] at e
            cases e
            exact Bool.eq_false_iff.mpr c2
        · have hi : st l + 1 + i = l.length := by
            have : ¬ ((st l + 1 + i : Nat) : Int) < (l.length : Int) := fun z => c1 (decide_eq_true z)
            omega
          walk_at "go"
          refine ⟨fin i (nl_of hd (fun _ z => by rw [e0] at z; exact h48 (Option.some.inj z)) fun c e => ?_) _ rfl, rfl⟩
          rw [List.getElem?_eq_none (by omega)] at e
          cases e
    rintro σ' H2 ⟨rfl, rfl⟩
    walk_at "go"
    refine ⟨len_ok hl, ?_⟩
    rw [S_len]
    walk_at "go"
    refine ite2 (fun c1 => ?_) (fun c1 => ?_)
    · have c1 : at1 l = l.length := by have := V.int.inj (of_decide_eq_true c1); omega
      walk_at "go"
      have := k H2 S1
      rw [hc0 (if_pos c1)] at this
      exact this
    have c1 : at1 l ≠ l.length := fun z => c1 (decide_eq_true (congrArg V.int (congrArg Nat.cast z)))
    have hat : at1 l < l.length := by have := at1_le l; omega
    have hc1 : ∀ {x : Nat}, (if l[at1 l]? ≠ some 47 then at1 l + 1 else if nl (l.drop (at1 l + 1)) = 0 ∨ l[at1 l + 1]? = some 48 then at1 l + 2 else if at2 l < l.length then at2 l + 1 else 0) = x → tcol l = x := fun e => hc0 ((if_neg c1).trans e)
    have back : ∀ {H3 : Hp} {a : Int} {x : Nat}, tcol l = x → a = (x : Int) → Same H H3 → Q (.int a) H3 := fun {H3 a x} e1 e2 S3 => by
      have := k H3 S3
      rw [e1, ← e2] at this
      exact this
    refine g_cut (fun σ' H' => σ' = [some (.str (S l)), some (.int (st l : Int)), some (.int (at1 l : Int))] ∧ Same H H' ∧ l[at1 l]? = some 47 ∧ dg l (at1 l + 1) = true ∧ l[at1 l + 1]? ≠ some 48) ?_ ?_
    · walk_at "go"
      refine g_ixX (n := at1 l) hl rfl (List.getElem?_eq_getElem hat) ?_
      walk_at "go"
      rw [strSl, d_str1]
      by_cases c2 : l[at1 l] = 47
      · rw [decide_eq_true c2]
        have e2 : l[at1 l]? = some 47 := by rw [List.getElem?_eq_getElem hat, c2]
        have hc2 : ∀ {x : Nat}, (if nl (l.drop (at1 l + 1)) = 0 ∨ l[at1 l + 1]? = some 48 then at1 l + 2 else if at2 l < l.length then at2 l + 1 else 0) = x → tcol l = x := fun e => hc1 ((if_neg (fun z => z e2)).trans e)
        walk_at "go"
        refine g_slX hl (slice_one (i := at1 l + 1) (by omega) (by omega)) ?_
        walk_at "go"
        refine ⟨by decide, ?_⟩
        intro p n_p
        generalize eq_H3 : upd H2 p _ = H3
        have S_H3 : Same H2 H3 := by rw [← eq_H3]; exact Same.new n_p
        have e_p := congrFun eq_H3 p
        rw [upd_same] at e_p
        have e_p := e_p.symm
        clear eq_H3
        refine ⟨p, _, rfl, .inr (SqT.of e_p), rfl, flat_sgs, ?_⟩
        rw [in_dg1]
        have S13 := S1.trans S_H3
        by_cases h3 : dg l (at1 l + 1) = true ∧ l[at1 l + 1]? ≠ some 48
        · rw [h3.1, decide_eq_true h3.2]
          walk_at "go"
          exact ⟨rfl, S13, e2, rfl, h3.2⟩
        · rw [show (dg l (at1 l + 1) && decide (l[at1 l + 1]? ≠ some 48)) = false from Bool.eq_false_iff.mpr fun z => h3 (by rw [Bool.and_eq_true, decide_eq_true_eq] at z; exact z)]
          walk_at "go"
          refine g_ixX (n := at1 l) hl rfl (List.getElem?_eq_getElem hat) ?_
          walk_at "go"
          rw [d_str1, decide_eq_true c2]
          refine back (x := at1 l + 2) (hc2 (if_pos ?_)) (by rw [if_pos rfl]; omega) S13
          by_cases h4 : l[at1 l + 1]? = some 48
          · exact .inr h4
          · refine .inl (nl_dg.mpr (Bool.eq_false_iff.mpr fun z => h3 ⟨z, h4⟩))
      · rw [decide_eq_false c2]
        have e2 : l[at1 l]? ≠ some 47 := fun z => by rw [List.getElem?_eq_getElem hat] at z; exact c2 (Option.some.inj z)
        walk_at "go"
        refine g_ixX (n := at1 l) hl rfl (List.getElem?_eq_getElem hat) ?_
        walk_at "go"
        rw [d_str1, decide_eq_false c2]
        exact back (x := at1 l + 1) (hc1 (if_pos e2)) (by rw [if_neg (by decide)]; omega) S1
    rintro σ' H3 ⟨rfl, S3, e2, h3, h4⟩
    have hc3 : ∀ {x : Nat}, (if at2 l < l.length then at2 l + 1 else 0) = x → tcol l = x := fun e => hc1 ((if_neg (fun z => z e2)).trans ((if_neg (fun z => z.elim (fun z => by rw [nl_dg.mp z] at h3; cases h3) h4)).trans e))
    obtain ⟨c5, e5, d5⟩ := dg_some h3
    have h5 : at1 l + 1 < l.length := (List.getElem?_eq_some_iff.mp e5).1
    walk_at "go"
    refine g_cut (fun σ' H' => σ' = [some (.str (S l)), some (.int (st l : Int)), some (.int (at2 l : Int))] ∧ H' = H3) ?_ ?_
    · have fin : ∀ (i : Nat), nl (l.drop (at1 l + 1)) = i + 1 → ∀ a : Int, a = ((at1 l + 2 + i : Nat) : Int) → [some (V.str (S l)), some (.int (st l : Int)), some (.int a)] = [some (V.str (S l)), some (.int (st l : Int)), some (.int (at2 l : Int))] := fun i hi a ea => by
        have : a = (at2 l : Int) := by unfold at2; omega
        rw [this]
      refine g_while (fun m σ H' => ∃ i : Nat, m + i + 2 + at1 l = l.length ∧ σ = [some (.str (S l)), some (.int (st l : Int)), some (.int ((at1 l + 2 + i : Nat) : Int))] ∧ H' = H3 ∧ (∀ j, j < i + 1 → ∃ c, l[at1 l + 1 + j]? = some c ∧ dig c = true)) (l.length - at1 l - 2) ⟨0, by omega, rfl, rfl, fun j hj => ⟨c5, by rw [show j = 0 by omega]; exact e5, d5⟩⟩ ?_
      rintro m σ H' ⟨i, hm, rfl, rfl, hd⟩
      walk_at "go"
      refine ⟨len_ok hl, ?_⟩
      rw [S_len]
      walk_at "go"
      refine ite2 (fun c1 => ?_) (fun c1 => ?_)
      · have hi : at1 l + 2 + i < l.length := by have := of_decide_eq_true c1; omega
        walk_at "go"
        refine g_ixX (n := at1 l + 2 + i) hl rfl (List.getElem?_eq_getElem hi) ?_
        walk_at "go"
        refine ⟨S [_], _, rfl, rfl, ?_⟩
        rw [in_figs]
        walk_at "go"
        refine ite2 (fun c2 => ?_) (fun c2 => ?_)
        · refine ⟨fun σ' H2 => ∃ m', m' < m ∧ ∃ i : Nat, m' + i + 2 + at1 l = l.length ∧ σ' = [some (.str (S l)), some (.int (st l : Int)), some (.int ((at1 l + 2 + i : Nat) : Int))] ∧ H2 = H' ∧ (∀ j, j < i + 1 → ∃ c, l[at1 l + 1 + j]? = some c ∧ dig c = true), fun σ' H2 h => h, ?_⟩
          walk_at "go"
          refine ⟨m - 1, by omega, i + 1, by omega, rfl, rfl, fun j hj => ?_⟩
          by_cases hj2 : j < i + 1
          · exact hd j hj2
          · obtain rfl : j = i + 1 := by omega
            exact ⟨_, by rw [show at1 l + 1 + (i + 1) = at1 l + 2 + i by omega]; exact List.getElem?_eq_getElem hi, c2⟩
        · refine ⟨fin i (nl_of hd (fun _ z => h4 z) fun c e => ?_) _ rfl, rfl⟩
          rw [show at1 l + 1 + (i + 1) = at1 l + 2 + i by omega, List.getElem?_eq_getElem hi] at e
          cases e
          exact Bool.eq_false_iff.mpr c2
      · have hi : at1 l + 2 + i = l.length := by
          have : ¬ ((at1 l + 2 + i : Nat) : Int) < (l.length : Int) := fun z => c1 (decide_eq_true z)
          omega
        walk_at "go"
        refine ⟨fin i (nl_of hd (fun _ z => h4 z) fun c e => ?_) _ rfl, rfl⟩
        rw [List.getElem?_eq_none (by omega)] at e
        cases e
    rintro σ' H4 ⟨rfl, rfl⟩
    walk_at "go"
    refine ⟨len_ok hl, ?_⟩
    rw [S_len]
    have h6 : at2 l ≤ l.length := by
      have := nl_le (l.drop (at1 l + 1))
      rw [List.length_drop] at this
      unfold at2
      omega
    walk_at "go"
    refine ite2 (fun c1 => ?_) (fun c1 => ?_)
    · have c1 : at2 l = l.length := by have := V.int.inj (of_decide_eq_true c1); omega
      walk_at "go"
      exact back (x := 0) (hc3 (if_neg (by omega))) rfl S3
    · have c1 : at2 l ≠ l.length := fun z => c1 (decide_eq_true (congrArg V.int (congrArg Nat.cast z)))
      walk_at "go"
      exact back (x := at2 l + 1) (hc3 (if_pos (by omega))) (by omega) S3
end
end My

set_option exponentiation.threshold 5000

namespace My
open PySem L2 Pre Sh Tx SX
/-! ### the written forms are right -/
theorem num_pos_head : ∀ n : Nat, 0 < n → ∃ c r, TL.numL n = c :: r ∧ 49 ≤ c ∧ c ≤ 57 := by
  intro n
  induction n using Nat.strongRecOn with
  | _ n ih =>
    intro hn
    by_cases h : n < 10
    · exact ⟨48 + n, [], TL.numL_lt h, by omega, by omega⟩
    · obtain ⟨c, r, e, h1, h2⟩ := ih (n / 10) (by omega) (by omega)
      exact ⟨c, r ++ [48 + n % 10], by rw [TL.numL_step (by omega), e]; rfl, h1, h2⟩
theorem tw_app {p : Nat → Bool} : ∀ {a r : List Nat}, (∀ c ∈ a, p c = true) → (∀ c, r.head? = some c → p c = false) → (a ++ r).takeWhile p = a
  | [], [], _, _ => rfl
  | [], c :: r, _, h => by
    show (c :: r).takeWhile p = []
    rw [List.takeWhile_cons, if_neg (by rw [h c rfl]; exact Bool.false_ne_true)]
  | x :: a, r, h, h2 => by
    show (x :: (a ++ r)).takeWhile p = x :: a
    rw [List.takeWhile_cons, if_pos (h x (List.mem_cons_self ..)), tw_app (fun c hc => h c (List.mem_cons_of_mem _ hc)) h2]
theorem nl_num {n : Nat} {r : List Nat} (h : ∀ c, r.head? = some c → dig c = false) : nl (TL.numL n ++ r) = (TL.numL n).length := by
  by_cases hn : n = 0
  · subst hn
    rw [TL.numL_lt (by decide)]
    rfl
  · obtain ⟨c, s, e, h1, h2⟩ := num_pos_head n (by omega)
    have hd := TL.numL_digits n
    rw [e] at hd ⊢
    show nl (c :: (s ++ r)) = _
    rw [nl_cons, if_neg (by omega)]
    have := tw_app (p := dig) (a := c :: s) (r := r) (fun x hx => dig_iff.mpr (hd x hx)) h
    show ((c :: s ++ r).takeWhile dig).length = _
    rw [this]
theorem num_head_ne (n : Nat) : (TL.numL n).head? ≠ some 45 := fun z => by
  have h : 45 ∈ TL.numL n := List.mem_of_mem_head? z
  have := TL.numL_digits n 45 h
  omega
theorem head_app {a r : List Nat} (h : a ≠ []) : (a ++ r).head? = a.head? := by
  cases a with
  | nil => exact absurd rfl h
  | cons c a => rfl
/-- a number's text with something behind it that begins with no digit -/
theorem ztx_at {t : Int} {r : List Nat} (h : ∀ c, r.head? = some c → dig c = false) : nl ((ztx t ++ r).drop (st (ztx t ++ r))) ≠ 0 ∧ ¬ (st (ztx t ++ r) = 1 ∧ (ztx t ++ r)[1]? = some 48) ∧ at1 (ztx t ++ r) = (ztx t).length := by
  have hne : (TL.numL t.natAbs).length ≠ 0 := fun z => TL.numL_ne _ (List.length_eq_zero_iff.mp z)
  by_cases ht : t < 0
  · have e : ztx t = 45 :: TL.numL t.natAbs := by unfold ztx; rw [if_pos ht]
    have hs : st (ztx t ++ r) = 1 := by unfold st; rw [e]; rfl
    have hd : (ztx t ++ r).drop 1 = TL.numL t.natAbs ++ r := by rw [e]; rfl
    unfold at1
    rw [hs, hd, nl_num h]
    refine ⟨hne, fun z => ?_, by rw [e, List.length_cons]; omega⟩
    obtain ⟨c, s, e2, h1, h2⟩ := num_pos_head t.natAbs (by omega)
    have := z.2
    rw [e, e2] at this
    have := Option.some.inj (show some c = some 48 from this)
    omega
  · have e : ztx t = TL.numL t.natAbs := by unfold ztx; rw [if_neg ht]
    have hs : st (ztx t ++ r) = 0 := by
      unfold st
      rw [e, head_app (TL.numL_ne _), if_neg (num_head_ne _)]
    unfold at1
    rw [hs, List.drop_zero, e, nl_num h]
    exact ⟨hne, fun z => by omega, by omega⟩
theorem ival_ztx (t : Int) : ival (ztx t) = t := by
  unfold ival ztx
  by_cases ht : t < 0
  · rw [if_pos ht, if_pos (show (45 :: TL.numL t.natAbs).head? = some 45 from rfl), List.tail_cons, TL.numL_val]
    omega
  · rw [if_neg ht, if_neg (num_head_ne _), TL.numL_val]
    omega
def wtx (t b : Int) : List Nat := if b = 1 then ztx t else ztx t ++ [47] ++ ztx b
theorem wtx_right {t b : Int} (hb : 0 < b) : tcol (wtx t b) = 0 ∧ vtop (wtx t b) = t ∧ vbot (wtx t b) = b := by
  unfold wtx
  by_cases h1 : b = 1
  · rw [if_pos h1]
    obtain ⟨a1, a2, a3⟩ := ztx_at (t := t) (r := []) (fun c e => by cases e)
    rw [List.append_nil] at a1 a2 a3
    refine ⟨?_, ?_, ?_⟩
    · unfold tcol
      rw [if_neg (fun z => z.elim a1 a2), if_pos a3]
    · unfold vtop
      rw [a3, List.take_length, ival_ztx]
    · unfold vbot
      rw [if_pos a3, h1]
  · rw [if_neg h1]
    have eb : ztx b = TL.numL b.natAbs := by unfold ztx; rw [if_neg (by omega)]
    obtain ⟨c, s, e2, h2, h3⟩ := num_pos_head b.natAbs (by omega)
    obtain ⟨a1, a2, a3⟩ := ztx_at (t := t) (r := 47 :: ztx b) (fun c e => by cases e; decide)
    have ew : ztx t ++ [47] ++ ztx b = ztx t ++ 47 :: ztx b := by rw [List.append_assoc]; rfl
    rw [ew]
    have hlen : (ztx t ++ 47 :: ztx b).length = (ztx t).length + 1 + (ztx b).length := by rw [List.length_append, List.length_cons]; omega
    have n1 : at1 (ztx t ++ 47 :: ztx b) ≠ (ztx t ++ 47 :: ztx b).length := by rw [a3, hlen]; omega
    have hdr : (ztx t ++ 47 :: ztx b).drop ((ztx t).length + 1) = ztx b := by
      rw [List.drop_append]
      simp
    have hn : nl (ztx b) = (ztx b).length := by
      rw [eb]
      have := nl_num (n := b.natAbs) (r := []) (fun c e => by cases e)
      rw [List.append_nil] at this
      exact this
    have hn0 : (ztx b).length ≠ 0 := by rw [eb, e2]; simp
    have e47 : (ztx t ++ 47 :: ztx b)[(ztx t).length]? = some 47 := by simp
    have e48 : (ztx t ++ 47 :: ztx b)[(ztx t).length + 1]? = some c := by
      rw [List.getElem?_append_right (by omega), eb, e2]
      simp
    refine ⟨?_, ?_, ?_⟩
    · unfold tcol at2
      rw [a3, hdr, hn]
      rw [a3] at n1
      rw [if_neg (fun z => z.elim a1 a2), if_neg n1, if_neg (fun z => z e47), if_neg (fun z => z.elim hn0 fun z => by rw [e48] at z; have := Option.some.inj z; omega), if_neg (by omega)]
    · unfold vtop
      rw [a3, List.take_left, ival_ztx]
    · unfold vbot
      rw [if_neg n1, a3, hdr, eb, TL.numL_val]
      omega
theorem wtx_len {t b : Int} (h1 : Bd 60 t) (h2 : Bd 60 b) : (wtx t b).length ≤ 60 := by
  have z : ∀ {i : Int}, Bd 60 i → (ztx i).length ≤ 20 := fun {i} h => by
    have h1 : (TL.numL i.natAbs).length ≤ 19 := TL.numL_len (by decide) (Nat.lt_of_lt_of_le h (by decide))
    unfold ztx
    split
    · rw [List.length_cons]; omega
    · omega
  have := z h1
  have := z h2
  unfold wtx
  split
  · omega
  · rw [List.length_append, List.length_append, List.length_singleton]; omega
def spInt : Sp := fun vs H Q _ => ∃ (p c : Addr) (n : Nat), vs = [.ref p] ∧ PenAt H p c n ∧ n < 900000000 ∧ ∀ x H', Bd 60 x → Kp p H H' → PenAt H' p c (n + 5) → Q (.int x) H'
def spIs (C : Addr) : Sp := fun vs H Q _ => ∃ a t b x y, vs = [.ref a, .int x, .int y] ∧ ShAt C H a t b ∧ t * y = x * b ∧ 0 < b ∧ Int.gcd t b = 1 ∧ Bd 300 t ∧ Bd 300 b ∧ Bd 300 x ∧ Bd 300 y ∧ Q (.bl true) H
section
variable {P : Program} {w : World} {K : PySem.W.Frag} {mg : Str → Option Value} {base : Heap} {C_Share C_BadNumber C_BadText : Addr}
theorem ok_L_integer {f : Addr} {fd : FuncData} (F : Fun K "_law_integer" "_law_integer" s_L_integer f fd) (T : Txt mg) (C_L_draw : Cal P w K mg base 1 "_law_draw" spDraw) : FnOk P w K mg base CX0 2 f fd ["_law_pen_here"] spInt := by
  refine F.ok sc_L_integer (fun vs H Q E h => ?_) (fun cdv A outer s H vs Q E hr h => ?_)
  · obtain ⟨p, c, n, rfl, _⟩ := h
    rfl
  · obtain ⟨p, c, n, rfl, pen, hn, k⟩ := h
    refine ⟨_, (pss_cons (ps_set (i := 1) sc_L_integer.nd rfl (.inl rfl) (pcal C_L_draw hr (by decide) (by rfl) (pa_cons (pv 0) (pa_cons pe_int pa_nil))))
      (pss_cons (ps_if (pt_cmpR op_lt (pv 1) pe_int (nomark _)) (pss_one (ps_ret (pe_op op_sub (pcal C_L_draw hr (by decide) (by rfl) (pa_cons (pv 0) (pa_cons pe_int pa_nil))) pe_int))) pss_nil)
      (pss_cons (ps_if (pt_cmpR op_eq (pv 1) pe_int (nomark _)) (pss_one (ps_ret (pe_op op_mul (pe_op op_mul (pe_op op_sub (pcal C_L_draw hr (by decide) (by rfl) (pa_cons (pv 0) (pa_cons pe_int pa_nil))) pe_int) (pe_op op_add pe_int (pcal C_L_draw hr (by decide) (by rfl) (pa_cons (pv 0) (pa_cons pe_int pa_nil))))) (pe_op op_add pe_int (pcal C_L_draw hr (by decide) (by rfl) (pa_cons (pv 0) (pa_cons pe_int pa_nil))))))) pss_nil)
      (pss_one (ps_ret (pe_op op_mul (pe_op op_add (pe_op op_mul (pcal C_L_draw hr (by decide) (by rfl) (pa_cons (pv 0) (pa_cons (pe_op op_pow pe_int pe_int) pa_nil))) (pe_op op_pow pe_int pe_int)) (pcal C_L_draw hr (by decide) (by rfl) (pa_cons (pv 0) (pa_cons (pe_op op_pow pe_int pe_int) pa_nil)))) (pe_op op_sub pe_int (pe_op op_mul pe_int (pcal C_L_draw hr (by decide) (by rfl) (pa_cons (pv 0) (pa_cons pe_int pa_nil))))))))))), ?_⟩
    walk_at "go"
    refine ⟨p, c, 5, _, rfl, pen, by omega, by decide, by decide, fun r H1 r0 r1 K1 P1 => ?_⟩
    walk_at "go"
    refine ite2 (fun c1 => ?_) (fun c1 => ?_)
    · walk_at "go"
      refine ⟨p, c, 13, _, rfl, P1, by omega, by decide, by decide, fun r2 H2 r20 r21 K2 P2 => ?_⟩
      walk_at "go"
      refine k _ _ (Nat.lt_of_lt_of_le (m := 13) (by omega) (by decide)) (K1.trans K2) (P2.mono (by omega))
    walk_at "go"
    refine ite2 (fun c2 => ?_) (fun c2 => ?_)
    · walk_at "go"
      refine ⟨p, c, 9, _, rfl, P1, by omega, by decide, by decide, fun r2 H2 r20 r21 K2 P2 => ?_⟩
      walk_at "go"
      refine ⟨p, c, 9, _, rfl, P2, by omega, by decide, by decide, fun r3 H3 r30 r31 K3 P3 => ?_⟩
      walk_at "go"
      refine ⟨p, c, 9, _, rfl, P3, by omega, by decide, by decide, fun r4 H4 r40 r41 K4 P4 => ?_⟩
      walk_at "go"
      refine k _ _ ?_ (K1.trans (K2.trans (K3.trans K4))) (P4.mono (by omega))
      have a1 : (r2 - 4).natAbs < 2 ^ 4 := by omega
      have a2 : (1 + r3).natAbs < 2 ^ 4 := by omega
      have a3 : (1 + r4).natAbs < 2 ^ 4 := by omega
      exact bd_mono (bd_mul (bd_mul a1 a2) a3) (by decide)
    walk_at "go"
    refine ⟨p, c, 10 ^ 9, _, rfl, P1, by omega, by decide, by decide, fun r2 H2 r20 r21 K2 P2 => ?_⟩
    walk_at "go"
    refine ⟨p, c, 10 ^ 9, _, rfl, P2, by omega, by decide, by decide, fun r3 H3 r30 r31 K3 P3 => ?_⟩
    walk_at "go"
    refine ⟨p, c, 2, _, rfl, P3, by omega, by decide, by decide, fun r4 H4 r40 r41 K4 P4 => ?_⟩
    walk_at "go"
    have r31 : r3 < 1000000000 := r31
    have r21 : r2 < 1000000000 := r21
    have e9 : (10 : Int) ^ Int.toNat 9 = 1000000000 := by decide
    rw [e9]
    refine k _ _ ?_ (K1.trans (K2.trans (K3.trans K4))) (P4.mono (by omega))
    have h4 : r4 = 0 ∨ r4 = 1 := by omega
    show ((r2 * 1000000000 + r3) * (1 - 2 * r4)).natAbs < 2 ^ 60
    rcases h4 with h4 | h4 <;> subst h4 <;> omega
theorem ok_L_is_share {f : Addr} {fd : FuncData} (F : Fun K "_law_is_share" "_law_is_share" s_L_is_share f fd) (T : Txt mg) (T_Share : Cl_Share K mg C_Share) : FnOk P w K mg base CX0 1 f fd ["_law_told", "_law_top", "_law_bottom"] (spIs C_Share) := by
  refine F.ok sc_L_is_share (fun vs H Q E h => ?_) (fun cdv A outer s H vs Q E hr h => ?_)
  · obtain ⟨a, t, b, x, y, rfl, _⟩ := h
    rfl
  · obtain ⟨a, t, b, x, y, rfl, sh, Le, Lp, Lg, bt, bb, bx, by_, k⟩ := h
    refine ⟨_, (pss_cons (ps_if (PW.pt (pw_or (pt_not (pt_val (pe_callB call_isi (by rfl) T.b_isinstance (by decide +kernel) (pa_cons (pv 0) (pa_cons (pgl (v := .ref C_Share) (by rfl) ⟨_, T_Share.gl, rfl⟩) pa_nil))))) (pw_or (pt_cmpR op_lt (pe_fld (pv 0) rfl) pe_int (nomark _)) (pw_or1 (pt_cmpR op_ne (pe_op op_mulW (pe_fld (pv 0) rfl) (pv 2)) (pe_op op_mulW (pv 1) (pe_fld (pv 0) rfl)) (nomark _)))))) (pss_one (ps_ret pe_bl)) pss_nil)
      (pss_cons (ps_par (i := 3) (j := 4) (by rfl) sc_L_is_share.nd rfl rfl (by decide) rfl rfl (pa_cons (pe_callB call_abs (by rfl) T.b_abs (by decide +kernel) (pa_cons (pe_fld (pv 0) rfl) pa_nil)) (pa_cons (pe_fld (pv 0) rfl) pa_nil)) (by rfl))
      (pss_cons (ps_while PassesOwn.never (pt_cmpR op_ne (pv 4) pe_int (nomark _)) (pss_one (ps_par (i := 3) (j := 4) (by rfl) sc_L_is_share.nd rfl rfl (by decide) rfl rfl (pa_cons (pv 4) (pa_cons (pe_op op_mod (pe_callTy call_int1 (by rfl) T.b_int (by decide +kernel) (pa_cons (pv 3) pa_nil)) (pv 4)) pa_nil)) (by rfl))))
      (pss_one (ps_ret (pe_cmpR op_eq (pv 3) pe_int (nomark _))))))), ?_⟩
    walk_at "go"
    refine ⟨_, _, _, _, true, rfl, .own C_Share, ty_share T_Share sh, T_Share.ins.me, ?_⟩
    walk_at "go"
    refine g_bot T_Share sh ?_
    walk_at "go"
    rw [decide_eq_false (show ¬ b < 1 from fun z => by omega)]
    walk_at "go"
    refine g_top T_Share sh ?_
    walk_at "go"
    refine g_rI (wide_mul bt by_ (by decide) (by decide) (by decide)) ?_
    walk_at "go"
    refine g_bot T_Share sh ?_
    walk_at "go"
    refine g_rI (wide_mul bx bb (by decide) (by decide) (by decide)) ?_
    walk_at "go"
    rw [decide_eq_true (congrArg V.int Le)]
    walk_at "go"
    refine g_top T_Share sh ?_
    walk_at "go"
    refine g_bot T_Share sh ?_
    walk_at "go"
    rw [show (if t < 0 then -t else t) = (t.natAbs : Int) by omega]
    refine g_while (fun m σ H' => ∃ u v : Nat, m = v ∧ σ = [some (.ref a), some (.int x), some (.int y), some (.int u), some (.int v)] ∧ H' = H ∧ Nat.gcd u v = 1) b.natAbs ⟨t.natAbs, b.natAbs, rfl, by
      have e : ((b.natAbs : Nat) : Int) = b := by omega
      rw [e]
      rfl, rfl, Lg⟩ ?_
    rintro m σ H' ⟨u, v, rfl, rfl, rfl, hg⟩
    walk_at "go"
    by_cases hv : m = 0
    · subst hv
      rw [show decide (V.int ((0 : Nat) : Int) = V.int 0) = true from decide_eq_true rfl]
      walk_at "go"
      rw [Nat.gcd_zero_right] at hg
      subst hg
      exact k
    · rw [show decide (V.int (m : Int) = V.int 0) = false from decide_eq_false fun z => hv (by have := V.int.inj z; omega)]
      walk_at "go"
      refine ⟨fun σ' H2 => ∃ m', m' < m ∧ ∃ u v : Nat, m' = v ∧ σ' = [some (.ref a), some (.int x), some (.int y), some (.int u), some (.int v)] ∧ H2 = H' ∧ Nat.gcd u v = 1, fun σ' H2 h => h, ?_⟩
      walk_at "go"
      exact ⟨u % m, Nat.mod_lt _ (by omega), m, u % m, rfl, rfl, rfl, by rw [Nat.gcd_comm m, ← Nat.gcd_rec, Nat.gcd_comm]; exact hg⟩
end
end My

set_option exponentiation.threshold 5000

namespace My
open PySem L2 Pre Sh Tx SX
def spTexts (C : Addr) : Sp := fun vs H Q _ => ∃ (p c a : Addr) (n : Nat) (t b : Int), vs = [.ref p, .ref a] ∧ PenAt H p c n ∧ n < 900000000 ∧ ShAt C H a t b ∧ 0 < b ∧ Bd 60 t ∧ Bd 60 b ∧
  ∀ H', Kp p H H' → PenAt H' p c (n + 10) → Q (.bl true) H'
theorem ShAt.kp {C : Addr} {H H' : Hp} {a p c : Addr} {n : Nat} {t b : Int} (h : ShAt C H a t b) (e : Kp p H H') (hp : PenAt H p c n) : ShAt C H' a t b := by
  obtain ⟨dx, h⟩ := h
  obtain ⟨cells, x, d, k, f, e1, e2, h4⟩ := hp
  exact ⟨dx, e _ _ (ne_of h e1 (by intro z; cases z)) h⟩
section
variable {P : Program} {w : World} {K : PySem.W.Frag} {mg : Str → Option Value} {base : Heap} {C_Share C_BadNumber C_BadText : Addr}
theorem ok_L_texts_right {f : Addr} {fd : FuncData} (F : Fun K "_law_texts_right" "_law_texts_right" s_L_texts_right f fd) (T : Txt mg) (T_Share : Cl_Share K mg C_Share) (C_L_draw : Cal P w K mg base 1 "_law_draw" spDraw) (C_L_pick : Cal P w K mg base 2 "_law_pick" (spPick K))
    (C_share_of : Own.RCal P w K mg base 5 "share_of" (spShare C_Share C_BadText)) (C_L_told_column : Cal P w K mg base 6 "_law_told_column" spCol) (C_L_wrong_column : Cal P w K mg base 1 "_law_wrong_column" spCol)
    (M_Share_written : Own.MCal P w K mg base 1 C_Share "written" (spWritten C_Share)) (M_ShareU_eqU : Own.MCal P w K mg base 3 C_Share "__eq__" (spEq C_Share)) : FnOk P w K mg base CX0 7 f fd ["_law_pen_here", "_law_one"] (spTexts C_Share) := by
  refine F.ok sc_L_texts_right (fun vs H Q E h => ?_) (fun cdv A outer s H vs Q E hr h => ?_)
  · obtain ⟨p, c, a, n, t, b, rfl, _⟩ := h
    rfl
  · obtain ⟨p, c, a, n, t, b, rfl, pen, hn, sh, hb, bt, bb, k⟩ := h
    refine ⟨_, (pss_cons (ps_if (PW.pt (pw_or (pt_cmpR (Own.op_neOwn M_ShareU_eqU hr (by decide) T_Share.ins.hm T_Share.ne) (Own.rcal C_share_of hr (by decide) (by rfl) (pa_cons (Own.pmeth0 M_Share_written  T_Share.ins.cl hr (by decide) (pv 1) ) pa_nil)) (pv 1) (nomark _)) (pw_or1 (pt_cmpR op_ne (Own.pmeth0 M_Share_written  T_Share.ins.cl hr (by decide) (pv 1) ) (pe_op op_add_str (pe_callTy call_str_int (by rfl) T.b_str (by decide +kernel) (pa_cons (pe_fld (pv 1) rfl) pa_nil)) (pe_op Tx.op_rep_str (pe_op op_add_str pe_str (pe_callTy call_str_int (by rfl) T.b_str (by decide +kernel) (pa_cons (pe_fld (pv 1) rfl) pa_nil))) (pe_callTy call_int1 (by rfl) T.b_int (by decide +kernel) (pa_cons (pe_cmpR op_gt (pe_fld (pv 1) rfl) pe_int (nomark _)) pa_nil)))) (nomark _))))) (pss_one (ps_ret pe_bl)) pss_nil)
      (pss_cons (ps_set (i := 2) sc_L_texts_right.nd rfl (.inl rfl) (Own.pmeth0 M_Share_written  T_Share.ins.cl hr (by decide) (pv 1) ))
      (pss_cons (ps_for PassesOwn.never rfl (pi_range1 (by rfl) T.b_range (pa_cons pe_int pa_nil)) (pg_name (i := 3) sc_L_texts_right.nd rfl (.inl rfl))
        (pss_cons (ps_set (i := 4) sc_L_texts_right.nd rfl (.inl rfl) (pcal C_L_draw hr (by decide) (by rfl) (pa_cons (pv 0) (pa_cons (pe_op op_add (pe_callB call_len_str (by rfl) T.b_len PySem.boot_len (pa_cons (pv 2) pa_nil)) pe_int) pa_nil))))
      (pss_cons (ps_set (i := 5) sc_L_texts_right.nd rfl (.inl rfl) (pcal C_L_pick hr (by decide) (by rfl) (pa_cons (pv 0) (pa_cons (pe_lst (pa_cons pe_str (pa_cons pe_str (pa_cons pe_str (pa_cons pe_str (pa_cons pe_str (pa_cons pe_str (pa_cons pe_str (pa_cons pe_str pa_nil))))))))) pa_nil))))
      (pss_cons (ps_set (i := 2) sc_L_texts_right.nd rfl (.inl rfl) (pe_op op_add_str (pe_op op_add_str (pe_slice C8.sl_txt (pv 2) po_none (po_some (pv 4))) (pv 5)) (pe_slice C8.sl_txt (pv 2) (po_some (pe_op op_add (pv 4) (pcal C_L_draw hr (by decide) (by rfl) (pa_cons (pv 0) (pa_cons pe_int pa_nil))))) po_none)))
      (pss_one (ps_if (pt_cmpR op_ne (pcal C_L_told_column hr (by decide) (by rfl) (pa_cons (pv 2) pa_nil)) (pcal C_L_wrong_column hr (by decide) (by rfl) (pa_cons (pv 2) pa_nil)) (nomark _)) (pss_one (ps_ret pe_bl)) pss_nil))))))
      (pss_one (ps_ret pe_bl))))), ?_⟩
    have bt3 : Bd 300 t := bd_mono bt (by decide)
    have bb3 : Bd 300 b := bd_mono bb (by decide)
    have lt : t.natAbs.log2 < 1920 := Nat.lt_of_lt_of_le (PySem.Flt.log2_lt_of (by decide) bt) (by decide)
    have lb : b.natAbs.log2 < 1920 := Nat.lt_of_lt_of_le (PySem.Flt.log2_lt_of (by decide) bb) (by decide)
    obtain ⟨w1, w2, w3⟩ := wtx_right (t := t) hb
    have wl := wtx_len bt bb
    walk_at "go"
    obtain ⟨dx, ea⟩ := id sh
    refine ⟨a, dx, _, rfl, ea, look_no (ks := ["top", "bottom"]) (by decide +kernel), ?_⟩
    walk_at "go"
    refine ⟨a, t, b, rfl, sh, bt3, bb3, ?_⟩
    walk_at "go"
    refine ⟨wtx t b, rfl, by omega, fun z => absurd w1 z, fun _ q t' b' H1 hL nq S1 sq => ?_⟩
    rw [w2, w3] at hL
    walk_at "go"
    obtain ⟨dq, eq⟩ := id sq
    refine ⟨q, dq, _, _, rfl, eq, ty_share T_Share (sh.keep S1), Own.nf_self, q, .ref a, rfl, .inl ⟨t', b', t, b, ⟨sq, .inl ⟨a, rfl, sh.keep S1⟩, hL.p, hb, Nat.lt_of_le_of_lt hL.bt bt3, Nat.lt_of_le_of_lt hL.bb bb3, bt3, bb3⟩, fun H2 S2 => ⟨_, rfl, ?_⟩⟩⟩
    rw [show decide (t' * b - t * b' = 0) = true from decide_eq_true (by have := hL.e; omega)]
    have S12 := S1.trans S2
    have sh2 := sh.keep S12
    obtain ⟨dx2, ea2⟩ := id sh2
    walk_at "go"
    refine ⟨a, dx2, _, rfl, ea2, look_no (ks := ["top", "bottom"]) (by decide +kernel), ?_⟩
    walk_at "go"
    refine ⟨a, t, b, rfl, sh2, bt3, bb3, ?_⟩
    walk_at "go"
    refine g_top T_Share sh2 ?_
    walk_at "go"
    refine ⟨lt, ?_⟩
    rw [int_tx]
    walk_at "go"
    rw [strSl]
    refine g_bot T_Share sh2 ?_
    walk_at "go"
    refine ⟨lb, ?_⟩
    rw [int_tx]
    have l1 := ztx_len bt3
    have l2 := ztx_len bb3
    refine ⟨_, _, rfl, rfl, by rw [S_len, S_len]; exact Nat.le_of_lt (small1000 (by simp; omega)), ?_⟩
    rw [S_cat]
    walk_at "go"
    refine g_bot T_Share sh2 ?_
    walk_at "go"
    obtain ⟨kk, hk1, hk2, hk3⟩ : ∃ kk : Nat, kk ≤ 1 ∧ (if decide (1 < b) = true then (1 : Int) else 0) = (kk : Int) ∧ ztx t ++ (List.replicate kk ([47] ++ ztx b)).flatten = wtx t b := by
      unfold wtx
      by_cases h1 : b = 1
      · refine ⟨0, by decide, ?_, ?_⟩
        · rw [decide_eq_false (by omega)]; rfl
        · rw [if_pos h1]; simp
      · refine ⟨1, by decide, ?_, ?_⟩
        · rw [decide_eq_true (by omega)]; rfl
        · rw [if_neg h1]; simp
    rw [hk2]
    have l3 : ([47] ++ ztx b).length ≤ 102 := by simp; omega
    refine ⟨_, _, rfl, rfl, by omega, by omega, by omega, by rw [Int.toNat_natCast]; exact Nat.le_trans (Nat.mul_le_mul l3 hk1) (by decide), ?_⟩
    rw [Int.toNat_natCast]
    have l4 := congrArg List.length hk3
    rw [List.length_append] at l4
    refine ⟨_, _, rfl, rfl, by rw [S_len, S_len]; exact Nat.le_of_lt (small1000 (by omega)), ?_⟩
    rw [S_cat, hk3]
    walk_at "go"
    rw [decide_eq_true (show V.str (S (if b = 1 then ztx t else ztx t ++ [47] ++ ztx b)) = V.str (S (wtx t b)) from rfl)]
    walk_at "go"
    refine ⟨a, dx2, _, rfl, ea2, look_no (ks := ["top", "bottom"]) (by decide +kernel), ?_⟩
    walk_at "go"
    refine ⟨a, t, b, rfl, sh2, bt3, bb3, ?_⟩
    walk_at "go"
    refine ⟨by decide, by decide, for_range (lo := 0) (n := 3) (fun i σ H' => ∃ (l : List Nat) (v3 v4 v5 : Option V), σ = [some (.ref p), some (.ref a), some (.str (S l)), v3, v4, v5] ∧ l.length ≤ 60 + i ∧ Kp p H H' ∧ PenAt H' p c (n + 3 * i)) ⟨wtx t b, _, _, _, rfl, wl, Kp.of S12, pen.keep S12⟩ ?_ ?_⟩
    · rintro i σ H3 hi ⟨l, v3, v4, v5, rfl, hl, K3, P3⟩
      have hl2 : l.length ≤ 200 := by omega
      walk_at "go"
      refine ⟨len_ok hl2, ?_⟩
      rw [S_len]
      walk_at "go"
      refine ⟨p, c, (l.length : Int) + 1, _, rfl, P3, by omega, by omega, by omega, fun r H4 r0 r1 K4 P4 => ?_⟩
      walk_at "go"
      refine ⟨by walk_at "sz", ?_⟩
      intro D n_D
      generalize eq_H5 : upd H4 D _ = H5
      have S_H5 : Same H4 H5 := by rw [← eq_H5]; exact Same.new n_D
      have e_D := congrFun eq_H5 D
      rw [upd_same] at e_D
      have e_D := e_D.symm
      clear eq_H5
      walk_at "go"
      have P5 := P4.keep S_H5
      refine ⟨p, c, _, 8, _, _, rfl, P5, by omega, fun z => P5.lst e_D (V.ref.inj z), Pk.lst (SqL.of e_D), by decide, by decide, fun i2 H6 hi2 K6 P6 => ?_⟩
      obtain ⟨sg, hsg, esg⟩ : ∃ sg : List Nat, sg.length ≤ 1 ∧ [V.str "0", V.str "1", V.str (S [47]), V.str "-", V.str "+", V.str " ", V.str "a", V.str ""].getD i2 .non = V.str (S sg) := by
        have : i2 = 0 ∨ i2 = 1 ∨ i2 = 2 ∨ i2 = 3 ∨ i2 = 4 ∨ i2 = 5 ∨ i2 = 6 ∨ i2 = 7 := by omega
        rcases this with z | z | z | z | z | z | z | z <;> subst z
        · exact ⟨[48], by decide, congrArg V.str (by decide +kernel)⟩
        · exact ⟨[49], by decide, congrArg V.str (by decide +kernel)⟩
        · exact ⟨[47], by decide, rfl⟩
        · exact ⟨[45], by decide, congrArg V.str (by decide +kernel)⟩
        · exact ⟨[43], by decide, congrArg V.str (by decide +kernel)⟩
        · exact ⟨[32], by decide, congrArg V.str (by decide +kernel)⟩
        · exact ⟨[97], by decide, congrArg V.str (by decide +kernel)⟩
        · exact ⟨[], by decide, congrArg V.str (by decide +kernel)⟩
      rw [esg]
      walk_at "go"
      refine g_slX hl2 (slice_to (i := r) r0) ?_
      walk_at "go"
      have lt1 : (l.take r.toNat).length ≤ r.toNat := by rw [List.length_take]; omega
      refine ⟨_, _, rfl, rfl, by rw [S_len, S_len, List.length_take]; exact Nat.le_of_lt (small1000 (by omega)), ?_⟩
      rw [S_cat]
      walk_at "go"
      refine ⟨p, c, 2, _, rfl, P6, by omega, by decide, by decide, fun r2 H7 r20 r21 K7 P7 => ?_⟩
      walk_at "go"
      refine g_slX hl2 (slice_from (i := r + r2) (by omega)) ?_
      have ld : (l.drop (r + r2).toNat).length = l.length - (r + r2).toNat := List.length_drop
      have lc : (l.take r.toNat ++ sg ++ l.drop (r + r2).toNat).length ≤ l.length + 1 := by
        rw [List.length_append, List.length_append, ld]
        omega
      refine ⟨_, _, rfl, rfl, by rw [S_len, S_len, ← List.length_append]; exact Nat.le_of_lt (small1000 (by omega)), ?_⟩
      rw [S_cat]
      generalize hl3 : l.take r.toNat ++ sg ++ l.drop (r + r2).toNat = l3 at lc
      walk_at "go"
      refine ⟨l3, rfl, by omega, fun H8 S8 => ?_⟩
      walk_at "go"
      refine ⟨l3, rfl, by omega, fun H9 S9 => ?_⟩
      walk_at "go"
      rw [decide_eq_true rfl]
      walk_at "go"
      have S79 := S8.trans S9
      exact ⟨l3, _, _, _, rfl, by omega, K3.trans (K4.trans ((Kp.of S_H5).trans (K6.trans (K7.trans (Kp.of S79))))), (P7.keep S79).mono (by omega)⟩
    · rintro σ H3 ⟨l, v3, v4, v5, rfl, hl, K3, P3⟩
      walk_at "go"
      exact k H3 K3 (P3.mono (by omega))
end
end My

set_option exponentiation.threshold 5000

namespace My
open PySem L2 Pre Sh Tx SX
def spLaw (K : PySem.W.Frag) : Sp := fun vs H Q _ => ∃ (a : Addr) (ns : List Int), vs = [.ref a] ∧ SqL K H a (ns.map V.int) ∧ ns.length ≤ 63 ∧ ∀ H', Q (.bl true) H'
/-- the slots of a turn -/
abbrev σL (a0 p : Addr) (t va vb vc vd : Int) (q1 q2 : Addr) (v9 v10 v11 v12 : Option V) : L2.St := [some (.ref a0), some (.ref p), some (.int t), some (.int va), some (.int vb), some (.int vc), some (.int vd), some (.ref q1), some (.ref q2), v9, v10, v11, v12]
theorem g_ownB {C : Addr} {fx fy : Int → Int → Int → Int → Int} {H : Hp} {q1 q2 : Addr} {t b t2 b2 : Int} {Q : VK} (W : Two C H q1 (.ref q2) t b t2 b2) (sh2 : ShAt C H q2 t2 b2) (hne : fy t b t2 b2 ≠ 0)
    (k : ∀ p t' b' H', Lst t' b' (fx t b t2 b2) (fy t b t2 b2) → Same H H' → ShAt C H' p t' b' → Q (.ref p) H') : Own.rOwnB C (spAr C fx fy) (.ref q1) (.ref q2) H Q := by
  obtain ⟨d1, e1⟩ := id W.sh
  obtain ⟨d2, e2⟩ := sh2
  exact ⟨q1, d1, _, q2, d2, _, rfl, e1, rfl, e2, q1, .ref q2, t, b, t2, b2, rfl, W, hne, fun p t' b' H' L _ S sh => k p t' b' H' L S sh⟩
theorem g_ownI {C : Addr} {fx fy : Int → Int → Int → Int → Int} {H : Hp} {q1 : Addr} {t b i : Int} {Q : VK} (W : Two C H q1 (.int i) t b i 1) (hne : fy t b i 1 ≠ 0)
    (k : ∀ p t' b' H', Lst t' b' (fx t b i 1) (fy t b i 1) → Same H H' → ShAt C H' p t' b' → Q (.ref p) H') : Own.rOwnI C (spAr C fx fy) (.ref q1) (.int i) H Q := by
  obtain ⟨d1, e1⟩ := id W.sh
  exact ⟨q1, d1, _, i, rfl, e1, rfl, q1, .int i, t, b, i, 1, rfl, W, hne, fun p t' b' H' L _ S sh => k p t' b' H' L S sh⟩
theorem g_ar {C : Addr} {fx fy : Int → Int → Int → Int → Int} {H : Hp} {q1 : Addr} {v : V} {t b t2 b2 : Int} {Q : VK} {E : XK} (W : Two C H q1 v t b t2 b2) (hne : fy t b t2 b2 ≠ 0)
    (k : ∀ p t' b' H', Lst t' b' (fx t b t2 b2) (fy t b t2 b2) → Same H H' → ShAt C H' p t' b' → Q (.ref p) H') : spAr C fx fy [.ref q1, v] H Q E :=
  ⟨q1, v, t, b, t2, b2, rfl, W, hne, fun p t' b' H' L _ S sh => k p t' b' H' L S sh⟩
theorem g_is {C : Addr} {H : Hp} {q : Addr} {t b x y X Y : Int} {Q : VK} {E : XK} (sh : ShAt C H q t b) (L : Lst t b X Y) (bX : Bd 200 X) (bY : Bd 200 Y) (e : t * y = x * b) (bx : Bd 200 x) (by_ : Bd 200 y) (k : Q (.bl true) H) : spIs C [.ref q, .int x, .int y] H Q E :=
  ⟨q, t, b, x, y, rfl, sh, e, L.p, L.g, bd_mono (Nat.lt_of_le_of_lt L.bt bX) (by decide), bd_mono (Nat.lt_of_le_of_lt L.bb bY) (by decide), bd_mono bx (by decide), bd_mono by_ (by decide), k⟩
theorem up2 {n : Nat} {x : Int} (h : Bd n x) (e : n ≤ 200 := by decide) : Bd 200 x := bd_mono h e
theorem eqv2 {x y : Bool} : PyData.eqv (.tuple [.bool x, .bool y]) (.tuple [.bool x, .bool y]) = true := by simp [PyData.eqv, PyData.eqvAll]
theorem eqv3 {x y z : Bool} : PyData.eqv (.tuple [.bool x, .bool y, .bool z]) (.tuple [.bool x, .bool y, .bool z]) = true := by simp [PyData.eqv, PyData.eqvAll]
theorem eqv4 {x y z u : Bool} : PyData.eqv (.list [.bool x, .bool y, .bool z, .bool u]) (.list [.bool x, .bool y, .bool z, .bool u]) = true := by simp [PyData.eqv, PyData.eqvAll]
section
variable {P : Program} {w : World} {K : PySem.W.Frag} {mg : Str → Option Value} {base : Heap} {C_Share C_BadNumber C_BadText : Addr}
theorem ok_law {f : Addr} {fd : FuncData} (F : Fun K "law" "law" s_law f fd) (T : Txt mg) (T_Share : Cl_Share K mg C_Share) (C_L_pen : Cal P w K mg base 1 "_law_pen" (spPen K)) (C_L_integer : Cal P w K mg base 2 "_law_integer" spInt) (C_L_is_share : Cal P w K mg base 1 "_law_is_share" (spIs C_Share)) (C_L_texts_right : Cal P w K mg base 7 "_law_texts_right" (spTexts C_Share))
    (X_BadNumber : Up.XCal P w K mg base 1 "BadNumber" C_BadNumber ["what", "number"]) (exm_BadNumber_BadNumber : PySem.W.exmOne K (.ref C_BadNumber) (.ref C_BadNumber) = some true)
    (MK_Share : Own.MkC (L2.CX P w) P w K mg base 3 "Share" C_Share (spInit C_Share C_BadNumber) []) (MKd_Share : Own.MkC (L2.CX P w) P w K mg base 3 "Share" C_Share (spInit C_Share C_BadNumber) [.int 1])
    (M_ShareU_addU : Own.MCal P w K mg base 5 C_Share "__add__" (spAr C_Share (fun t b t2 b2 => t * b2 + t2 * b) fun _ b _ b2 => b * b2)) (M_ShareU_subU : Own.MCal P w K mg base 5 C_Share "__sub__" (spAr C_Share (fun t b t2 b2 => t * b2 - t2 * b) fun _ b _ b2 => b * b2)) (M_ShareU_mulU : Own.MCal P w K mg base 5 C_Share "__mul__" (spAr C_Share (fun t _ t2 _ => t * t2) fun _ b _ b2 => b * b2))
    (M_Share_over : Own.MCal P w K mg base 5 C_Share "over" (spAr C_Share (fun t _ _ b2 => t * b2) fun _ b t2 _ => b * t2)) (M_Share_compared : Own.MCal P w K mg base 2 C_Share "compared" (spCmp C_Share)) (M_Share_under : Own.MCal P w K mg base 3 C_Share "under" (spLt C_Share)) (M_Share_at_most : Own.MCal P w K mg base 3 C_Share "at_most" (spLe C_Share))
    (M_ShareU_eqU : Own.MCal P w K mg base 3 C_Share "__eq__" (spEq C_Share)) : FnOk P w K mg base CX0 8 f fd ["_law_script"] (spLaw K) := by
  refine F.ok sc_law (fun vs H Q E h => ?_) (fun cdv A outer s H vs Q E hr h => ?_)
  · obtain ⟨a, ns, rfl, _⟩ := h
    rfl
  · obtain ⟨a0, ns, rfl, hS, hlen, k⟩ := h
    refine ⟨_, (pss_cons (ps_set (i := 1) sc_law.nd rfl (.inr rfl) (pcal C_L_pen hr (by decide) (by rfl) (pa_cons (pv 0) pa_nil)))
      (pss_cons (ps_for PassesOwn.never rfl (pi_range1 (by rfl) T.b_range (pa_cons pe_int pa_nil)) (pg_name (i := 2) sc_law.nd rfl (.inl rfl))
        (pss_cons (ps_asg (pe_lc (own := [("_law_k", 12)]) (g := gName 12) (tt := tYes) rfl sc_law.nd (pi_range1 (by rfl) T.b_range (pa_cons pe_int pa_nil)) (blkOk_by (N := N_law) (sc := defScope s_law) (by decide +kernel)) (fun _ _ _ _ _ => (pg_name (i := 12) sc_law.nd rfl (.inl rfl))) (fun _ _ _ _ _ => pts_nil) (fun _ _ _ _ _ => (pcal C_L_integer hr (by decide) (by rfl) (pa_cons (pv 1) pa_nil)))) (pg_unl rfl (pgs_cons (pg_name (i := 3) sc_law.nd rfl (.inl rfl)) (pgs_cons (pg_name (i := 4) sc_law.nd rfl (.inl rfl)) (pgs_cons (pg_name (i := 5) sc_law.nd rfl (.inl rfl)) (pgs_cons (pg_name (i := 6) sc_law.nd rfl (.inl rfl)) pgs_nil))))))
      (pss_cons (ps_par (i := 4) (j := 6) (by rfl) sc_law.nd rfl rfl (by decide) rfl rfl (pa_cons (pe_ifExp (pt_cmpR op_ne (pv 4) pe_int (nomark _)) (pv 4) pe_int) (pa_cons (pe_ifExp (pt_cmpR op_ne (pv 6) pe_int (nomark _)) (pv 6) (pe_un un_neg pe_int)) pa_nil)) (by rfl))
      (pss_cons (ps_par (i := 7) (j := 8) (by rfl) sc_law.nd rfl rfl (by decide) rfl rfl (pa_cons (Own.pmake MK_Share passL hr (by decide) (by rfl) (pa_cons (pv 3) (pa_cons (pv 4) pa_nil))) (pa_cons (Own.pmake MK_Share passL hr (by decide) (by rfl) (pa_cons (pv 5) (pa_cons (pv 6) pa_nil))) pa_nil)) (by rfl))
      (Evl.pss_cut (ps_if (PW.pt (pw_or (pt_not (pt_val (pcal C_L_is_share hr (by decide) (by rfl) (pa_cons (pv 7) (pa_cons (pv 3) (pa_cons (pv 4) pa_nil)))))) (pw_or1 (pt_not (pt_val (pcal C_L_is_share hr (by decide) (by rfl) (pa_cons (pe_op (Own.op_ownB (op := .Add) M_ShareU_addU hr (by decide) T_Share.sf) (pv 7) (pv 8)) (pa_cons (pe_op op_add (pe_op op_mulW (pv 3) (pv 6)) (pe_op op_mulW (pv 5) (pv 4))) (pa_cons (pe_op op_mulW (pv 4) (pv 6)) pa_nil))))))))) (pss_one (ps_ret pe_bl)) pss_nil)
      (Evl.pss_cut (ps_if (PW.pt (pw_or (pt_not (pt_val (pcal C_L_is_share hr (by decide) (by rfl) (pa_cons (pe_op (Own.op_ownB (op := .Sub) M_ShareU_subU hr (by decide) T_Share.sf) (pv 7) (pv 8)) (pa_cons (pe_op op_sub (pe_op op_mulW (pv 3) (pv 6)) (pe_op op_mulW (pv 5) (pv 4))) (pa_cons (pe_op op_mulW (pv 4) (pv 6)) pa_nil)))))) (pw_or1 (pt_not (pt_val (pcal C_L_is_share hr (by decide) (by rfl) (pa_cons (pe_op (Own.op_ownB (op := .Mult) M_ShareU_mulU hr (by decide) T_Share.sf) (pv 7) (pv 8)) (pa_cons (pe_op op_mulW (pv 3) (pv 5)) (pa_cons (pe_op op_mulW (pv 4) (pv 6)) pa_nil))))))))) (pss_one (ps_ret pe_bl)) pss_nil)
      (Evl.pss_cut (ps_if (PW.pt (pw_or (pt_not (pt_val (pcal C_L_is_share hr (by decide) (by rfl) (pa_cons (pe_op (Own.op_ownI (op := .Add) M_ShareU_addU hr (by decide) T_Share.oi_Add) (pv 7) (pv 5)) (pa_cons (pe_op op_add (pv 3) (pe_op op_mulW (pv 5) (pv 4))) (pa_cons (pv 4) pa_nil)))))) (pw_or1 (pt_not (pt_val (pcal C_L_is_share hr (by decide) (by rfl) (pa_cons (pe_op (Own.op_ownI (op := .Mult) M_ShareU_mulU hr (by decide) T_Share.oi_Mult) (pv 7) (pv 6)) (pa_cons (pe_op op_mulW (pv 3) (pv 6)) (pa_cons (pv 4) pa_nil))))))))) (pss_one (ps_ret pe_bl)) pss_nil)
      (Evl.pss_cut (ps_if (PW.pt (pw_or (PW.pt (pw_and (pt_cmpR op_ne (pv 5) pe_int (nomark _)) (pw_and1 (pt_not (pt_val (pcal C_L_is_share hr (by decide) (by rfl) (pa_cons (Own.pmeth M_Share_over  T_Share.ins.cl hr (by decide) (pv 7) (pa_cons (pv 8) pa_nil)) (pa_cons (pe_op op_mulW (pv 3) (pv 6)) (pa_cons (pe_op op_mulW (pv 4) (pv 5)) pa_nil))))))))) (pw_or1 (pt_not (pt_val (pcal C_L_is_share hr (by decide) (by rfl) (pa_cons (Own.pmeth M_Share_over  T_Share.ins.cl hr (by decide) (pv 7) (pa_cons (pv 6) pa_nil)) (pa_cons (pv 3) (pa_cons (pe_op op_mulW (pv 4) (pv 6)) pa_nil))))))))) (pss_one (ps_ret pe_bl)) pss_nil)
      (pss_cons (ps_set (i := 9) sc_law.nd rfl (.inl rfl) (pe_op op_mulW (pe_op op_sub (pe_op op_mulW (pv 3) (pv 6)) (pe_op op_mulW (pv 5) (pv 4))) (pe_ifExp (pt_cmpR op_gt (pe_op op_mulW (pv 4) (pv 6)) pe_int (nomark _)) pe_int (pe_un un_neg pe_int))))
      (Evl.pss_cut (ps_if (pt_cmpR (op_neD hr.units) (pe_tup (pa_cons (pe_cmpR op_gt (Own.pmeth M_Share_compared  T_Share.ins.cl hr (by decide) (pv 7) (pa_cons (pv 8) pa_nil)) pe_int (nomark _)) (pa_cons (pe_cmpR op_lt (Own.pmeth M_Share_compared  T_Share.ins.cl hr (by decide) (pv 7) (pa_cons (pv 8) pa_nil)) pe_int (nomark _)) pa_nil))) (pe_tup (pa_cons (pe_cmpR op_gt (pv 9) pe_int (nomark _)) (pa_cons (pe_cmpR op_lt (pv 9) pe_int (nomark _)) pa_nil))) (nomark _)) (pss_one (ps_ret pe_bl)) pss_nil)
      (Evl.pss_cut (ps_if (pt_cmpR (op_neD hr.units) (pe_tup (pa_cons (Own.pmeth M_Share_under  T_Share.ins.cl hr (by decide) (pv 7) (pa_cons (pv 8) pa_nil)) (pa_cons (Own.pmeth M_Share_at_most  T_Share.ins.cl hr (by decide) (pv 7) (pa_cons (pv 8) pa_nil)) (pa_cons (pe_cmpR (Own.op_eqOwn M_ShareU_eqU hr (by decide)) (pv 7) (pv 8) (nomark _)) pa_nil)))) (pe_tup (pa_cons (pe_cmpR op_lt (pv 9) pe_int (nomark _)) (pa_cons (pe_cmpR op_le (pv 9) pe_int (nomark _)) (pa_cons (pe_cmpR op_eq (pv 9) pe_int (nomark _)) pa_nil)))) (nomark _)) (pss_one (ps_ret pe_bl)) pss_nil)
      (pss_cons (ps_set (i := 9) sc_law.nd rfl (.inl rfl) (pe_op op_mulW (pe_op op_sub (pv 3) (pe_op op_mulW (pv 5) (pv 4))) (pe_ifExp (pt_cmpR op_gt (pv 4) pe_int (nomark _)) pe_int (pe_un un_neg pe_int))))
      (pss_cons (ps_set (i := 10) sc_law.nd rfl (.inl rfl) (pe_lst (pa_cons (pe_cmpR op_gt (Own.pmeth M_Share_compared  T_Share.ins.cl hr (by decide) (pv 7) (pa_cons (pv 5) pa_nil)) pe_int (nomark _)) (pa_cons (pe_cmpR op_lt (Own.pmeth M_Share_compared  T_Share.ins.cl hr (by decide) (pv 7) (pa_cons (pv 5) pa_nil)) pe_int (nomark _)) (pa_cons (Own.pmeth M_Share_under  T_Share.ins.cl hr (by decide) (pv 7) (pa_cons (pv 5) pa_nil)) (pa_cons (Own.pmeth M_Share_at_most  T_Share.ins.cl hr (by decide) (pv 7) (pa_cons (pv 5) pa_nil)) pa_nil))))))
      (Evl.pss_cut (ps_if (pt_cmpR (op_neD hr.units) (pv 10) (pe_lst (pa_cons (pe_cmpR op_gt (pv 9) pe_int (nomark _)) (pa_cons (pe_cmpR op_lt (pv 9) pe_int (nomark _)) (pa_cons (pe_cmpR op_lt (pv 9) pe_int (nomark _)) (pa_cons (pe_cmpR op_le (pv 9) pe_int (nomark _)) pa_nil))))) (nomark _)) (pss_one (ps_ret pe_bl)) pss_nil)
      (Evl.pss_cut (ps_if (pt_not (pt_val (pcal C_L_is_share hr (by decide) (by rfl) (pa_cons (pe_op (Own.op_ownI (op := .Sub) M_ShareU_subU hr (by decide) T_Share.oi_Sub) (pv 7) (pv 5)) (pa_cons (pe_op op_sub (pv 3) (pe_op op_mulW (pv 5) (pv 4))) (pa_cons (pv 4) pa_nil)))))) (pss_one (ps_ret pe_bl)) pss_nil)
      (Evl.pss_cut (ps_if (pt_cmpR (op_neD hr.units) (pe_tup (pa_cons (pe_cmpR (Own.op_eqOwn M_ShareU_eqU hr (by decide)) (Own.pmake MKd_Share passL hr (by decide) (by rfl) (pa_cons (pv 3) pa_nil)) (pv 3) (nomark _)) (pa_cons (pe_cmpR (Own.op_eqOwn M_ShareU_eqU hr (by decide)) (Own.pmake MK_Share passL hr (by decide) (by rfl) (pa_cons (pe_op op_mulW (pv 3) (pv 4)) (pa_cons (pv 4) pa_nil))) (pv 3) (nomark _)) (pa_cons (pe_cmpR (Own.op_eqOwn M_ShareU_eqU hr (by decide)) (Own.pmake MKd_Share passL hr (by decide) (by rfl) (pa_cons pe_int pa_nil)) pe_bl (nomark _)) (pa_cons (pe_cmpR (Own.op_eqOwn M_ShareU_eqU hr (by decide)) (pv 7) pe_str (nomark _)) pa_nil))))) (pe_tup (pa_cons pe_bl (pa_cons pe_bl (pa_cons pe_bl (pa_cons pe_bl pa_nil))))) (nomark _)) (pss_one (ps_ret pe_bl)) pss_nil)
      (pss_one (ps_if (pt_not (pt_val (pcal C_L_texts_right hr (by decide) (by rfl) (pa_cons (pv 1) (pa_cons (pv 7) pa_nil))))) (pss_one (ps_ret pe_bl)) pss_nil))))))))))))))))))
      (pss_cons (Up.ps_try_hds rfl rfl takes0 (fun W pn xe tk hp => (pss_one (ps_expr (Own.pmakeS MK_Share tk hr (by decide) (by rfl) (pa_cons (pcal C_L_integer hr (by decide) (by rfl) (pa_cons (pv 1) pa_nil)) (pa_cons pe_int pa_nil)))))) (Up.Hds.as (i := 11) sc_law.nd rfl rfl ⟨by rfl, by decide, .inl X_BadNumber.gl⟩ (fun a oe cls d pn hz hf => (pss_one (ps_ret (pe_and (pe_cmpR op_eq (pe_xf X_BadNumber.xf (X_BadNumber.no "what" (by simp)) hz hf (pv 11)) pe_str (nomark _)) (pe_one (pe_cmpR op_eq (pe_xf X_BadNumber.xf (X_BadNumber.no "number" (by simp)) hz hf (pv 11)) pe_int (nomark _))))))) Up.Hds.nil))
      (pss_one (ps_ret pe_bl))))), ?_⟩
    walk_at "go"
    refine ⟨a0, ns, rfl, hS, fun p c H0 hp hc S0 pen0 => ?_⟩
    walk_at "go"
    refine ⟨by decide, by decide, for_range (lo := 0) (n := 4) (fun t σ H1 => ∃ (v2 v3 v4 v5 v6 v7 v8 v9 v10 v11 v12 : Option V), σ = [some (.ref a0), some (.ref p), v2, v3, v4, v5, v6, v7, v8, v9, v10, v11, v12] ∧ PenAt H1 p c (1000 * t)) ⟨_, _, _, _, _, _, _, _, _, _, _, rfl, pen0⟩ ?_ ?_⟩
    · rintro t σ H1 ht ⟨v2, v3, v4, v5, v6, v7, v8, v9, v10, v11, v12, rfl, pen1⟩
      walk_at "go"
      refine ⟨by decide, by decide, fun D0 n_D0 => lc_pen (lo := 0) (n := 4) (d := 5) (fun y => ∃ x : Int, Bd 60 x ∧ y = .int x) (by decide) n_D0 pen1 (fun _ => rfl) (fun i H2 hi K2 P2 Qe hQe => ?_) (fun H2 acc K2 P2 e_D0 hl0 hc0 => ?_)⟩
      · walk_at "go"
        refine ⟨p, c, _, rfl, P2, by omega, fun x H3 bx K3 P3 => hQe _ _ ⟨x, bx, rfl⟩ K3 (P3.mono (by omega))⟩
      match acc, hl0, hc0, e_D0 with
      | [y1, y2, y3, y4], _, hc0, e_D0 =>
      obtain ⟨va, bda, rfl⟩ := hc0 y1 (by simp)
      obtain ⟨vb0, bdb0, rfl⟩ := hc0 y2 (by simp)
      obtain ⟨vc, bdc, rfl⟩ := hc0 y3 (by simp)
      obtain ⟨vd0, bdd0, rfl⟩ := hc0 y4 (by simp)
      refine ⟨D0, _, rfl, SqL.of e_D0, rfl, ?_⟩
      walk_at "go"
      refine g_join (fun v H' => (∃ vb : Int, v = .int vb ∧ Bd 60 vb ∧ vb ≠ 0) ∧ H' = H2) (fun c1 Q' hQ' => ?_) (fun c1 Q' hQ' => ?_) (fun v H' ⟨⟨vb, e1, bdb, nb⟩, e2⟩ => ?_)
      · walk_at "go"
        refine hQ' _ _ ⟨⟨vb0, rfl, bdb0, fun z => ?_⟩, rfl⟩
        subst z
        exact absurd c1 (by decide)
      · walk_at "go"
        exact hQ' _ _ ⟨⟨1, rfl, by decide, by decide⟩, rfl⟩
      subst e1 e2
      walk_at "go"
      refine g_join (fun v H2 => (∃ vd : Int, v = .int vd ∧ Bd 60 vd ∧ vd ≠ 0) ∧ H2 = H') (fun c1 Q' hQ' => ?_) (fun c1 Q' hQ' => ?_) (fun v H2 ⟨⟨vd, e1, bdd, nd⟩, e2⟩ => ?_)
      · walk_at "go"
        refine hQ' _ _ ⟨⟨vd0, rfl, bdd0, fun z => ?_⟩, rfl⟩
        subst z
        exact absurd c1 (by decide)
      · walk_at "go"
        exact hQ' _ _ ⟨⟨-3, rfl, by decide, by decide⟩, rfl⟩
      subst e1 e2
      walk_at "go"
      refine g_sh (bd_mono bda (by decide)) (bd_mono bdb (by decide)) nb fun q1 t1 b1 H3 L1 nq1 S3 sh1' => ?_
      walk_at "go"
      refine g_sh (bd_mono bdc (by decide)) (bd_mono bdd (by decide)) nd fun q2 t2 b2 Hm L2' nq2 S4 sh2 => ?_
      have sh1 := sh1'.keep S4
      have Pm := P2.keep (S3.trans S4)
      have bt1 : Bd 60 t1 := Nat.lt_of_le_of_lt L1.bt bda
      have bb1 : Bd 60 b1 := Nat.lt_of_le_of_lt L1.bb bdb
      have bt2 : Bd 60 t2 := Nat.lt_of_le_of_lt L2'.bt bdc
      have bb2 : Bd 60 b2 := Nat.lt_of_le_of_lt L2'.bb bdd
      have nb1 : b1 ≠ 0 := fun z => by have := L1.p; omega
      have nb2 : b2 ≠ 0 := fun z => by have := L2'.p; omega
      have m3 : ∀ {n : Nat} {x : Int}, Bd n x → n ≤ 300 → Bd 300 x := fun h e => bd_mono h e
      have two : ∀ {H' : Hp}, Same Hm H' → Two C_Share H' q1 (.ref q2) t1 b1 t2 b2 := fun S => ⟨sh1.keep S, .inl ⟨q2, rfl, sh2.keep S⟩, L1.p, L2'.p, m3 bt1 (by decide), m3 bb1 (by decide), m3 bt2 (by decide), m3 bb2 (by decide)⟩
      have one : ∀ {H' : Hp} {i : Int}, Same Hm H' → Bd 60 i → Two C_Share H' q1 (.int i) t1 b1 i 1 := fun S bi => ⟨sh1.keep S, .inr ⟨rfl, rfl⟩, L1.p, by decide, m3 bt1 (by decide), m3 bb1 (by decide), m3 bi (by decide), by decide⟩
      walk_at "go"
      have go : ∀ {H' : Hp}, Same Hm H' → ShAt C_Share H' q2 t2 b2 := fun S => sh2.keep S
      have bb12 : Bd 120 (b1 * b2) := bd_mul bb1 bb2
      have hbb : b1 * b2 ≠ 0 := Int.mul_ne_zero nb1 nb2
      have pr : ∀ {x y : Int}, Bd 60 x → Bd 60 y → Bd 120 (x * y) := fun h1 h2 => bd_mul h1 h2
      refine g_cut (fun σ' H' => σ' = σL a0 p (0 + (t : Int)) va vb vc vd q1 q2 v9 v10 v11 v12 ∧ Same Hm H') ?_ ?_
      · walk_at "go"
        refine ⟨q1, t1, b1, va, vb, rfl, sh1, L1.e, L1.p, L1.g, m3 bt1 (by decide), m3 bb1 (by decide), m3 bda (by decide), m3 bdb (by decide), ?_⟩
        walk_at "go"
        refine g_ownB (two (Same.refl _)) sh2 hbb fun q3 t3 b3 H5 L3 S5 sh3 => ?_
        walk_at "go"
        refine g_rI (wm bda bdd) ?_
        walk_at "go"
        refine g_rI (wm bdc bdb) ?_
        walk_at "go"
        refine g_rI (wm bdb bdd) ?_
        walk_at "go"
        refine g_is sh3 L3 (up2 (bd_add (pr bt1 bb2) (pr bt2 bb1))) (up2 bb12) (add_two L1.e L2'.e nb1 nb2 L3.e) (up2 (bd_add (pr bda bdd) (pr bdc bdb))) (up2 (pr bdb bdd)) ?_
        walk_at "go"
        exact ⟨rfl, S5⟩
      rintro _ H5 ⟨rfl, S5⟩
      refine g_cut (fun σ' H' => σ' = σL a0 p (0 + (t : Int)) va vb vc vd q1 q2 v9 v10 v11 v12 ∧ Same Hm H') ?_ ?_
      · walk_at "go"
        refine g_ownB (two S5) (go S5) hbb fun q3 t3 b3 H6 L3 S6 sh3 => ?_
        walk_at "go"
        refine g_rI (wm bda bdd) ?_
        walk_at "go"
        refine g_rI (wm bdc bdb) ?_
        walk_at "go"
        refine g_rI (wm bdb bdd) ?_
        walk_at "go"
        refine g_is sh3 L3 (up2 (bd_sub (pr bt1 bb2) (pr bt2 bb1))) (up2 bb12) (sub_two L1.e L2'.e nb1 nb2 L3.e) (up2 (bd_sub (pr bda bdd) (pr bdc bdb))) (up2 (pr bdb bdd)) ?_
        walk_at "go"
        have S56 := S5.trans S6
        refine g_ownB (two S56) (go S56) hbb fun q4 t4 b4 H7 L4 S7 sh4 => ?_
        walk_at "go"
        refine g_rI (wm bda bdc) ?_
        walk_at "go"
        refine g_rI (wm bdb bdd) ?_
        walk_at "go"
        refine g_is sh4 L4 (up2 (pr bt1 bt2)) (up2 bb12) (mul_two L1.e L2'.e nb1 nb2 L4.e) (up2 (pr bda bdc)) (up2 (pr bdb bdd)) ?_
        walk_at "go"
        exact ⟨rfl, S56.trans S7⟩
      rintro _ H6 ⟨rfl, S6⟩
      refine g_cut (fun σ' H' => σ' = σL a0 p (0 + (t : Int)) va vb vc vd q1 q2 v9 v10 v11 v12 ∧ Same Hm H') ?_ ?_
      · walk_at "go"
        refine g_ownI (one S6 bdc) (by show b1 * 1 ≠ 0; omega) fun q3 t3 b3 H7 L3 S7 sh3 => ?_
        walk_at "go"
        refine g_rI (wm bdc bdb) ?_
        walk_at "go"
        refine g_is sh3 L3 (up2 (bd_add (pr bt1 (by decide)) (pr bdc bb1))) (up2 (pr bb1 (by decide))) (by have := add_two (x2 := vc) (y2 := 1) L1.e rfl nb1 (by decide) L3.e; rw [Int.mul_one, Int.mul_one] at this; exact this) (up2 (bd_add (bd_mono bda (by decide)) (pr bdc bdb))) (up2 bdb) ?_
        walk_at "go"
        have S67 := S6.trans S7
        refine g_ownI (one S67 bdd) (by show b1 * 1 ≠ 0; omega) fun q4 t4 b4 H8 L4 S8 sh4 => ?_
        walk_at "go"
        refine g_rI (wm bda bdd) ?_
        walk_at "go"
        refine g_is sh4 L4 (up2 (pr bt1 bdd)) (up2 (pr bb1 (by decide))) (by have := mul_two (x2 := vd) (y2 := 1) L1.e rfl nb1 (by decide) L4.e; rw [Int.mul_one] at this; exact this) (up2 (pr bda bdd)) (up2 bdb) ?_
        walk_at "go"
        exact ⟨rfl, S67.trans S8⟩
      rintro _ H7 ⟨rfl, S7⟩
      refine g_cut (fun σ' H' => σ' = σL a0 p (0 + (t : Int)) va vb vc vd q1 q2 v9 v10 v11 v12 ∧ Same Hm H') ?_ ?_
      · walk_at "go"
        by_cases hvc : vc = 0
        · rw [decide_eq_true (congrArg V.int hvc)]
          walk_at "go"
          obtain ⟨dqy, eqy⟩ := id (two S7).sh
          refine ⟨q1, dqy, _, rfl, eqy, look_no (ks := ["top", "bottom"]) (by decide +kernel), ?_⟩
          walk_at "go"
          refine g_ar (one S7 bdd) (show b1 * vd ≠ 0 from Int.mul_ne_zero nb1 nd) fun q4 t4 b4 HY L4 SY sh4 => ?_
          walk_at "go"
          refine g_rI (wm bdb bdd) ?_
          walk_at "go"
          refine g_is sh4 L4 (up2 (pr bt1 (by decide))) (up2 (pr bb1 bdd)) (by have := div_two (x2 := vd) (y2 := 1) (b2 := 1) L1.e (Int.mul_comm vd 1 ▸ rfl) nb1 (by decide) L4.e; rw [Int.mul_one] at this; exact this) (up2 bda) (up2 (pr bdb bdd)) ?_
          walk_at "go"
          exact ⟨rfl, (S7).trans SY⟩
        · rw [decide_eq_false fun z => hvc (V.int.inj z)]
          walk_at "go"
          have nt2 : t2 ≠ 0 := fun z => by
            have e := L2'.e
            rw [z, Int.zero_mul] at e
            exact (Int.mul_ne_zero hvc nb2) e.symm
          obtain ⟨dqx, eqx⟩ := id (two S7).sh
          refine ⟨q1, dqx, _, rfl, eqx, look_no (ks := ["top", "bottom"]) (by decide +kernel), ?_⟩
          walk_at "go"
          refine g_ar (two S7) (show b1 * t2 ≠ 0 from Int.mul_ne_zero nb1 nt2) fun q3 t3 b3 H8 L3 S8 sh3 => ?_
          walk_at "go"
          refine g_rI (wm bda bdd) ?_
          walk_at "go"
          refine g_rI (wm bdb bdc) ?_
          walk_at "go"
          refine g_is sh3 L3 (up2 (pr bt1 bb2)) (up2 (pr bb1 bt2)) (div_two L1.e L2'.e nb1 nb2 L3.e) (up2 (pr bda bdd)) (up2 (pr bdb bdc)) ?_
          walk_at "go"
          have S78 := S7.trans S8
          obtain ⟨dqy, eqy⟩ := id (two S78).sh
          refine ⟨q1, dqy, _, rfl, eqy, look_no (ks := ["top", "bottom"]) (by decide +kernel), ?_⟩
          walk_at "go"
          refine g_ar (one S78 bdd) (show b1 * vd ≠ 0 from Int.mul_ne_zero nb1 nd) fun q4 t4 b4 HY L4 SY sh4 => ?_
          walk_at "go"
          refine g_rI (wm bdb bdd) ?_
          walk_at "go"
          refine g_is sh4 L4 (up2 (pr bt1 (by decide))) (up2 (pr bb1 bdd)) (by have := div_two (x2 := vd) (y2 := 1) (b2 := 1) L1.e (Int.mul_comm vd 1 ▸ rfl) nb1 (by decide) L4.e; rw [Int.mul_one] at this; exact this) (up2 bda) (up2 (pr bdb bdd)) ?_
          walk_at "go"
          exact ⟨rfl, (S78).trans SY⟩
      rintro _ H8 ⟨rfl, S8⟩
      walk_at "go"
      refine g_rI (wm bda bdd) ?_
      walk_at "go"
      refine g_rI (wm bdc bdb) ?_
      walk_at "go"
      refine g_rI (wm bdb bdd) ?_
      walk_at "go"
      refine g_join (fun v H' => v = .int (if 0 < vb * vd then 1 else -1) ∧ H' = H8) (fun c1 Q' hQ' => ?_) (fun c1 Q' hQ' => ?_) (fun v H' ⟨e1, e2⟩ => ?_)
      · walk_at "go"
        exact hQ' _ _ ⟨by rw [if_pos (of_decide_eq_true c1)], rfl⟩
      · walk_at "go"
        exact hQ' _ _ ⟨by rw [if_neg fun z => c1 (decide_eq_true z)], rfl⟩
      subst e1 e2
      refine g_rI (wm (bd_sub (pr bda bdd) (pr bdc bdb)) (show Bd 2 (if 0 < vb * vd then 1 else -1) by split <;> decide)) ?_
      have hs := cmp_sign (cmp_two L1.e L2'.e) (Int.mul_pos L1.p L2'.p) (Int.mul_ne_zero nb nd)
      generalize hg : (va * vd - vc * vb) * (if 0 < vb * vd then 1 else -1) = gap at hs
      generalize hD : t1 * b2 - t2 * b1 = dif at hs
      walk_at "go"
      refine g_cut (fun σ' H2 => σ' = σL a0 p (0 + (t : Int)) va vb vc vd q1 q2 (some (.int gap)) v10 v11 v12 ∧ Same Hm H2) ?_ ?_
      · walk_at "go"
        obtain ⟨dqa, eqa⟩ := id (two S8).sh
        refine ⟨q1, dqa, _, rfl, eqa, look_no (ks := ["top", "bottom"]) (by decide +kernel), ?_⟩
        walk_at "go"
        refine ⟨q1, .ref q2, t1, b1, t2, b2, rfl, two S8, fun H9 S9 => ?_⟩
        rw [hD]
        have S89 := S8.trans S9
        walk_at "go"
        obtain ⟨dqb, eqb⟩ := id (two S89).sh
        refine ⟨q1, dqb, _, rfl, eqb, look_no (ks := ["top", "bottom"]) (by decide +kernel), ?_⟩
        walk_at "go"
        refine ⟨q1, .ref q2, t1, b1, t2, b2, rfl, two S89, fun H10 S10 => ?_⟩
        rw [hD]
        walk_at "go"
        refine ⟨by walk_at "sz", ?_⟩
        intro p1 n_p1
        generalize eq_H11 : upd H10 p1 _ = H11
        have S_H11 : Same H10 H11 := by rw [← eq_H11]; exact Same.new n_p1
        have e_p1 := congrFun eq_H11 p1
        rw [upd_same] at e_p1
        have e_p1 := e_p1.symm
        clear eq_H11
        walk_at "go"
        refine ⟨by walk_at "sz", ?_⟩
        intro p2 n_p2
        generalize eq_H12 : upd H11 p2 _ = H12
        have S_H12 : Same H11 H12 := by rw [← eq_H12]; exact Same.new n_p2
        have e_p2 := congrFun eq_H12 p2
        rw [upd_same] at e_p2
        have e_p2 := e_p2.symm
        clear eq_H12
        rw [show decide (0 < gap) = decide (0 < dif) from decide_eq_decide.mpr hs.1.symm, show decide (gap < 0) = decide (dif < 0) from decide_eq_decide.mpr hs.2.symm] at e_p2
        refine ⟨_, _, .tup (SqT.of (S_H12 _ _ e_p1)) (.cons (.bl _) (.cons (.bl _) .nil)), .tup (SqT.of e_p2) (.cons (.bl _) (.cons (.bl _) .nil)), rfl, rfl, ?_⟩
        rw [eqv2]
        walk_at "go"
        exact ⟨rfl, S89.trans (S10.trans (S_H11.trans S_H12))⟩
      rintro _ H9 ⟨rfl, S9⟩
      refine g_cut (fun σ' H2 => σ' = σL a0 p (0 + (t : Int)) va vb vc vd q1 q2 (some (.int gap)) v10 v11 v12 ∧ Same Hm H2) ?_ ?_
      · walk_at "go"
        obtain ⟨dqa, eqa⟩ := id (two S9).sh
        refine ⟨q1, dqa, _, rfl, eqa, look_no (ks := ["top", "bottom"]) (by decide +kernel), ?_⟩
        walk_at "go"
        refine ⟨q1, .ref q2, t1, b1, t2, b2, rfl, two S9, fun H10 S10 => ?_⟩
        rw [hD]
        have S910 := S9.trans S10
        walk_at "go"
        obtain ⟨dqb, eqb⟩ := id (two S910).sh
        refine ⟨q1, dqb, _, rfl, eqb, look_no (ks := ["top", "bottom"]) (by decide +kernel), ?_⟩
        walk_at "go"
        refine ⟨q1, .ref q2, t1, b1, t2, b2, rfl, two S910, fun H11 S11 => ?_⟩
        rw [hD]
        have S911 := S910.trans S11
        walk_at "go"
        obtain ⟨dqc, eqc⟩ := id (two S911).sh
        refine ⟨q1, dqc, _, _, rfl, eqc, ty_share T_Share (go S911), Own.nf_self, q1, .ref q2, rfl, .inl ⟨t1, b1, t2, b2, two S911, fun H12 S12 => ?_⟩⟩
        rw [hD]
        walk_at "go"
        refine ⟨by walk_at "sz", ?_⟩
        intro p1 n_p1
        generalize eq_H13 : upd H12 p1 _ = H13
        have S_H13 : Same H12 H13 := by rw [← eq_H13]; exact Same.new n_p1
        have e_p1 := congrFun eq_H13 p1
        rw [upd_same] at e_p1
        have e_p1 := e_p1.symm
        clear eq_H13
        walk_at "go"
        refine ⟨by walk_at "sz", ?_⟩
        intro p2 n_p2
        generalize eq_H14 : upd H13 p2 _ = H14
        have S_H14 : Same H13 H14 := by rw [← eq_H14]; exact Same.new n_p2
        have e_p2 := congrFun eq_H14 p2
        rw [upd_same] at e_p2
        have e_p2 := e_p2.symm
        clear eq_H14
        rw [show decide (gap < 0) = decide (dif < 0) from decide_eq_decide.mpr hs.2.symm, show decide (gap ≤ 0) = decide (dif ≤ 0) from decide_eq_decide.mpr (by have := hs.1; omega), show decide (V.int gap = V.int 0) = decide (dif = 0) from decide_eq_decide.mpr ⟨fun z => by have := V.int.inj z; have := hs.1; have := hs.2; omega, fun z => congrArg V.int (by have := hs.1; have := hs.2; omega)⟩] at e_p2
        refine ⟨_, _, .tup (SqT.of (S_H14 _ _ e_p1)) (.cons (.bl _) (.cons (.bl _) (.cons (.bl _) .nil))), .tup (SqT.of e_p2) (.cons (.bl _) (.cons (.bl _) (.cons (.bl _) .nil))), rfl, rfl, ?_⟩
        rw [eqv3]
        walk_at "go"
        exact ⟨rfl, S911.trans (S12.trans (S_H13.trans S_H14))⟩
      rintro _ H10 ⟨rfl, S10⟩
      walk_at "go"
      refine g_rI (wm bdc bdb) ?_
      walk_at "go"
      refine g_join (fun v H' => v = .int (if 0 < vb then 1 else -1) ∧ H' = H10) (fun c1 Q' hQ' => ?_) (fun c1 Q' hQ' => ?_) (fun v H' ⟨e1, e2⟩ => ?_)
      · walk_at "go"
        exact hQ' _ _ ⟨by rw [if_pos (of_decide_eq_true c1)], rfl⟩
      · walk_at "go"
        exact hQ' _ _ ⟨by rw [if_neg fun z => c1 (decide_eq_true z)], rfl⟩
      subst e1 e2
      refine g_rI (wm (bd_sub (bd_mono bda (by decide)) (pr bdc bdb)) (show Bd 2 (if 0 < vb then 1 else -1) by split <;> decide)) ?_
      have hs2 := cmp_sign (D := t1 * 1 - vc * b1) (G := va - vc * vb) (Y := vb) (B := b1) (by have := cmp_two (x2 := vc) (y2 := 1) (t2 := vc) (b2 := 1) L1.e rfl; rw [Int.mul_one vb, Int.mul_one va, Int.mul_one b1] at this; exact this) L1.p nb
      generalize hg2 : (va - vc * vb) * (if 0 < vb then 1 else -1) = gap2 at hs2
      generalize hD2 : t1 * 1 - vc * b1 = dif2 at hs2
      walk_at "go"
      obtain ⟨dqa, eqa⟩ := id (two S10).sh
      refine ⟨q1, dqa, _, rfl, eqa, look_no (ks := ["top", "bottom"]) (by decide +kernel), ?_⟩
      walk_at "go"
      refine ⟨q1, .int vc, t1, b1, vc, 1, rfl, one S10 bdc, fun H11 S11 => ?_⟩
      rw [hD2]
      have S1011 := S10.trans S11
      walk_at "go"
      obtain ⟨dqb, eqb⟩ := id (two S1011).sh
      refine ⟨q1, dqb, _, rfl, eqb, look_no (ks := ["top", "bottom"]) (by decide +kernel), ?_⟩
      walk_at "go"
      refine ⟨q1, .int vc, t1, b1, vc, 1, rfl, one S1011 bdc, fun H12 S12 => ?_⟩
      rw [hD2]
      have S1012 := S1011.trans S12
      walk_at "go"
      obtain ⟨dqc, eqc⟩ := id (two S1012).sh
      refine ⟨q1, dqc, _, rfl, eqc, look_no (ks := ["top", "bottom"]) (by decide +kernel), ?_⟩
      walk_at "go"
      refine ⟨q1, .int vc, t1, b1, vc, 1, rfl, one S1012 bdc, fun H13 S13 => ?_⟩
      rw [hD2]
      have S1013 := S1012.trans S13
      walk_at "go"
      obtain ⟨dqd, eqd⟩ := id (two S1013).sh
      refine ⟨q1, dqd, _, rfl, eqd, look_no (ks := ["top", "bottom"]) (by decide +kernel), ?_⟩
      walk_at "go"
      refine ⟨q1, .int vc, t1, b1, vc, 1, rfl, one S1013 bdc, fun H14 S14 => ?_⟩
      rw [hD2]
      have S1014 := S1013.trans S14
      walk_at "go"
      refine ⟨by walk_at "sz", ?_⟩
      intro Dt n_Dt
      generalize eq_H15 : upd H14 Dt _ = H15
      have S_H15 : Same H14 H15 := by rw [← eq_H15]; exact Same.new n_Dt
      have e_Dt := congrFun eq_H15 Dt
      rw [upd_same] at e_Dt
      have e_Dt := e_Dt.symm
      clear eq_H15
      have Sm15 := S1014.trans S_H15
      walk_at "go"
      refine g_cut (fun σ' H2 => σ' = σL a0 p (0 + (t : Int)) va vb vc vd q1 q2 (some (.int gap2)) (some (.ref Dt)) v11 v12 ∧ Same Hm H2) ?_ ?_
      · walk_at "go"
        refine ⟨by walk_at "sz", ?_⟩
        intro D2 n_D2
        generalize eq_H16 : upd H15 D2 _ = H16
        have S_H16 : Same H15 H16 := by rw [← eq_H16]; exact Same.new n_D2
        have e_D2 := congrFun eq_H16 D2
        rw [upd_same] at e_D2
        have e_D2 := e_D2.symm
        clear eq_H16
        rw [show decide (0 < gap2) = decide (0 < dif2) from decide_eq_decide.mpr hs2.1.symm, show decide (gap2 < 0) = decide (dif2 < 0) from decide_eq_decide.mpr hs2.2.symm, show decide (gap2 ≤ 0) = decide (dif2 ≤ 0) from decide_eq_decide.mpr (by have := hs2.1; omega)] at e_D2
        refine ⟨_, _, .lst (SqL.of (S_H16 _ _ e_Dt)) (.cons (.bl _) (.cons (.bl _) (.cons (.bl _) (.cons (.bl _) .nil)))), .lst (SqL.of e_D2) (.cons (.bl _) (.cons (.bl _) (.cons (.bl _) (.cons (.bl _) .nil)))), rfl, rfl, ?_⟩
        rw [eqv4]
        walk_at "go"
        exact ⟨rfl, Sm15.trans S_H16⟩
      rintro _ H16 ⟨rfl, S16⟩
      refine g_cut (fun σ' H2 => σ' = σL a0 p (0 + (t : Int)) va vb vc vd q1 q2 (some (.int gap2)) (some (.ref Dt)) v11 v12 ∧ Same Hm H2) ?_ ?_
      · walk_at "go"
        refine g_ownI (one S16 bdc) (by show b1 * 1 ≠ 0; omega) fun q3 t3 b3 H17 L3 S17 sh3 => ?_
        walk_at "go"
        refine g_rI (wm bdc bdb) ?_
        walk_at "go"
        refine g_is sh3 L3 (up2 (bd_sub (pr bt1 (by decide)) (pr bdc bb1))) (up2 (pr bb1 (by decide))) (by have := sub_two (x2 := vc) (y2 := 1) L1.e rfl nb1 (by decide) L3.e; rw [Int.mul_one, Int.mul_one] at this; exact this) (up2 (bd_sub (bd_mono bda (by decide)) (pr bdc bdb))) (up2 bdb) ?_
        walk_at "go"
        exact ⟨rfl, S16.trans S17⟩
      rintro _ H17 ⟨rfl, S17⟩
      refine g_cut (fun σ' H2 => σ' = σL a0 p (0 + (t : Int)) va vb vc vd q1 q2 (some (.int gap2)) (some (.ref Dt)) v11 v12 ∧ Same Hm H2) ?_ ?_
      · walk_at "go"
        refine g_sh1 (bd_mono bda (by decide)) fun q3 t3 b3 H18 L3 _ S18 sh3 => ?_
        walk_at "go"
        obtain ⟨d3, e3⟩ := id sh3
        refine ⟨q3, d3, _, _, rfl, e3, .base (.int va), Own.nf_int, q3, .int va, rfl, .inl ⟨t3, b3, va, 1, ⟨sh3, .inr ⟨rfl, rfl⟩, L3.p, by decide, bd_mono (Nat.lt_of_le_of_lt L3.bt bda) (by decide), Nat.lt_of_le_of_lt L3.bb (by decide), bd_mono bda (by decide), by decide⟩, fun H19 S19 => ?_⟩⟩
        rw [show decide (t3 * 1 - va * b3 = 0) = true from decide_eq_true (by have := L3.e; omega)]
        walk_at "go"
        refine g_rI (wm bda bdb) ?_
        walk_at "go"
        refine g_sh (bd_mono (pr bda bdb) (by decide)) (bd_mono bdb (by decide)) nb fun q4 t4 b4 H20 L4 _ S20 sh4 => ?_
        walk_at "go"
        obtain ⟨d4, e4⟩ := id sh4
        refine ⟨q4, d4, _, _, rfl, e4, .base (.int va), Own.nf_int, q4, .int va, rfl, .inl ⟨t4, b4, va, 1, ⟨sh4, .inr ⟨rfl, rfl⟩, L4.p, by decide, bd_mono (Nat.lt_of_le_of_lt L4.bt (pr bda bdb)) (by decide), bd_mono (Nat.lt_of_le_of_lt L4.bb bdb) (by decide), bd_mono bda (by decide), by decide⟩, fun H21 S21 => ?_⟩⟩
        rw [show decide (t4 * 1 - va * b4 = 0) = true from decide_eq_true (by
          have e5 : t4 * vb = va * b4 * vb := by rw [L4.e, Int.mul_assoc, Int.mul_comm vb, ← Int.mul_assoc]
          have := Int.eq_of_mul_eq_mul_right nb e5
          omega)]
        walk_at "go"
        refine g_sh1 (by decide) fun q5 t5 b5 H22 L5 _ S22 sh5 => ?_
        walk_at "go"
        obtain ⟨d5, e5⟩ := id sh5
        refine ⟨q5, d5, _, _, rfl, e5, .base (.bl true), Own.nf_bool, q5, .bl true, rfl, .inr ⟨.inl ⟨true, rfl⟩, fun H23 S23 => ?_⟩⟩
        walk_at "go"
        have S1723 := S17.trans (S18.trans (S19.trans (S20.trans (S21.trans (S22.trans S23)))))
        obtain ⟨d6, e6⟩ := id (two S1723).sh
        refine ⟨q1, d6, _, _, rfl, e6, .base (.str _), Own.nf_str, q1, .str _, rfl, .inr ⟨.inr ⟨_, rfl⟩, fun H24 S24 => ?_⟩⟩
        walk_at "go"
        refine ⟨by walk_at "sz", ?_⟩
        intro p1 n_p1
        generalize eq_H25 : upd H24 p1 _ = H25
        have S_H25 : Same H24 H25 := by rw [← eq_H25]; exact Same.new n_p1
        have e_p1 := congrFun eq_H25 p1
        rw [upd_same] at e_p1
        have e_p1 := e_p1.symm
        clear eq_H25
        walk_at "go"
        refine ⟨by walk_at "sz", ?_⟩
        intro p2 n_p2
        generalize eq_H26 : upd H25 p2 _ = H26
        have S_H26 : Same H25 H26 := by rw [← eq_H26]; exact Same.new n_p2
        have e_p2 := congrFun eq_H26 p2
        rw [upd_same] at e_p2
        have e_p2 := e_p2.symm
        clear eq_H26
        refine ⟨_, _, .tup (SqT.of (S_H26 _ _ e_p1)) (.cons (.bl _) (.cons (.bl _) (.cons (.bl _) (.cons (.bl _) .nil)))), .tup (SqT.of e_p2) (.cons (.bl _) (.cons (.bl _) (.cons (.bl _) (.cons (.bl _) .nil)))), rfl, rfl, ?_⟩
        rw [show PyData.eqv (.tuple [.bool true, .bool true, .bool false, .bool false]) (.tuple [.bool true, .bool true, .bool false, .bool false]) = true from rfl]
        walk_at "go"
        exact ⟨rfl, S1723.trans (S24.trans (S_H25.trans S_H26))⟩
      rintro _ H18 ⟨rfl, S18⟩
      walk_at "go"
      have P18 := Pm.keep S18
      refine ⟨p, c, q1, _, t1, b1, rfl, P18, by omega, sh1.keep S18, L1.p, bt1, bb1, fun H19 K19 P19 => ?_⟩
      walk_at "go"
      exact ⟨_, _, _, _, _, _, _, _, _, _, _, rfl, P19.mono (by omega)⟩
    · rintro σ H1 ⟨v2, v3, v4, v5, v6, v7, v8, v9, v10, v11, v12, rfl, pen1⟩
      walk_at "go"
      refine ⟨p, c, _, rfl, pen1, by omega, fun x H2 bx K2 P2 => ?_⟩
      walk_at "go"
      intro q dx nq ndx ne
      refine ⟨q, dx, x, 0, rfl, upd_same, bd_mono bx (by decide), by decide, fun _ d H3 nd3 S3 e3 => ?_, fun z => absurd rfl z⟩
      refine ⟨true, exm_BadNumber_BadNumber, fun _ ae nae => ?_, fun z => nomatch z⟩
      have nd2 : (["what", "number"] : List Str).Nodup := by decide +kernel
      walk_at "go"
      refine ⟨rfl, rfl, d, _, _, rfl, e3, Up.fld_at 0 nd2 rfl rfl, ?_⟩
      walk_at "go"
      rw [decide_eq_true rfl]
      walk_at "go"
      refine ⟨rfl, rfl, d, _, _, rfl, e3, Up.fld_at 1 nd2 rfl rfl, ?_⟩
      walk_at "go"
      rw [decide_eq_true rfl]
      exact k _
end
end My

namespace My
open PySem L2 Pre
theorem all_mk {l : PySem.W.OpenLaw} {w : World} {K : PySem.W.Frag} {h : Heap} {mg : Str → Option Value} {fa : Addr} (X : K.In h) (G : h.Ns mainGlobals mg) (hfa : mg "law" = some (.ref fa))
    {C_Share : Addr}
    {C_BadText : Addr}
    {C_BadNumber : Addr}
    {f_divisor_of : Addr} {od_divisor_of an_divisor_of : Option Addr} {sl_divisor_of : Array (Option Value)} {oc_divisor_of kV_divisor_of dc_divisor_of pm_divisor_of cd_divisor_of ct_divisor_of : Value}
    {f_share_parts : Addr} {od_share_parts an_share_parts : Option Addr} {sl_share_parts : Array (Option Value)} {oc_share_parts kV_share_parts dc_share_parts pm_share_parts cd_share_parts ct_share_parts : Value}
    {f_ShareU_initU : Addr} {od_ShareU_initU an_ShareU_initU : Option Addr} {sl_ShareU_initU : Array (Option Value)} {oc_ShareU_initU kV_ShareU_initU dc_ShareU_initU pm_ShareU_initU cd_ShareU_initU ct_ShareU_initU : Value}
    {T_ShareU_initU : Addr} {oT_ShareU_initU : Value} {dT_ShareU_initU : Option Addr} {nT_ShareU_initU : Nat} {sT_ShareU_initU : Array (Option Value)}
    {tk0_ShareU_initU : Tok}
    {f_Share_written : Addr} {od_Share_written an_Share_written : Option Addr} {sl_Share_written : Array (Option Value)} {oc_Share_written kV_Share_written dc_Share_written pm_Share_written cd_Share_written ct_Share_written : Value}
    {f_ShareU_addU : Addr} {od_ShareU_addU an_ShareU_addU : Option Addr} {sl_ShareU_addU : Array (Option Value)} {oc_ShareU_addU kV_ShareU_addU dc_ShareU_addU pm_ShareU_addU cd_ShareU_addU ct_ShareU_addU : Value}
    {f_ShareU_subU : Addr} {od_ShareU_subU an_ShareU_subU : Option Addr} {sl_ShareU_subU : Array (Option Value)} {oc_ShareU_subU kV_ShareU_subU dc_ShareU_subU pm_ShareU_subU cd_ShareU_subU ct_ShareU_subU : Value}
    {f_ShareU_mulU : Addr} {od_ShareU_mulU an_ShareU_mulU : Option Addr} {sl_ShareU_mulU : Array (Option Value)} {oc_ShareU_mulU kV_ShareU_mulU dc_ShareU_mulU pm_ShareU_mulU cd_ShareU_mulU ct_ShareU_mulU : Value}
    {f_Share_over : Addr} {od_Share_over an_Share_over : Option Addr} {sl_Share_over : Array (Option Value)} {oc_Share_over kV_Share_over dc_Share_over pm_Share_over cd_Share_over ct_Share_over : Value}
    {f_Share_compared : Addr} {od_Share_compared an_Share_compared : Option Addr} {sl_Share_compared : Array (Option Value)} {oc_Share_compared kV_Share_compared dc_Share_compared pm_Share_compared cd_Share_compared ct_Share_compared : Value}
    {f_ShareU_eqU : Addr} {od_ShareU_eqU an_ShareU_eqU : Option Addr} {sl_ShareU_eqU : Array (Option Value)} {oc_ShareU_eqU kV_ShareU_eqU dc_ShareU_eqU pm_ShareU_eqU cd_ShareU_eqU ct_ShareU_eqU : Value}
    {f_Share_under : Addr} {od_Share_under an_Share_under : Option Addr} {sl_Share_under : Array (Option Value)} {oc_Share_under kV_Share_under dc_Share_under pm_Share_under cd_Share_under ct_Share_under : Value}
    {f_Share_at_most : Addr} {od_Share_at_most an_Share_at_most : Option Addr} {sl_Share_at_most : Array (Option Value)} {oc_Share_at_most kV_Share_at_most dc_Share_at_most pm_Share_at_most cd_Share_at_most ct_Share_at_most : Value}
    {f_number_end : Addr} {od_number_end an_number_end : Option Addr} {sl_number_end : Array (Option Value)} {oc_number_end kV_number_end dc_number_end pm_number_end cd_number_end ct_number_end : Value}
    {f_share_of : Addr} {od_share_of an_share_of : Option Addr} {sl_share_of : Array (Option Value)} {oc_share_of kV_share_of dc_share_of pm_share_of cd_share_of ct_share_of : Value}
    {f_L_pen : Addr} {od_L_pen an_L_pen : Option Addr} {sl_L_pen : Array (Option Value)} {oc_L_pen kV_L_pen dc_L_pen pm_L_pen cd_L_pen ct_L_pen : Value}
    {f_L_draw : Addr} {od_L_draw an_L_draw : Option Addr} {sl_L_draw : Array (Option Value)} {oc_L_draw kV_L_draw dc_L_draw pm_L_draw cd_L_draw ct_L_draw : Value}
    {f_L_pick : Addr} {od_L_pick an_L_pick : Option Addr} {sl_L_pick : Array (Option Value)} {oc_L_pick kV_L_pick dc_L_pick pm_L_pick cd_L_pick ct_L_pick : Value}
    {f_L_integer : Addr} {od_L_integer an_L_integer : Option Addr} {sl_L_integer : Array (Option Value)} {oc_L_integer kV_L_integer dc_L_integer pm_L_integer cd_L_integer ct_L_integer : Value}
    {f_L_is_share : Addr} {od_L_is_share an_L_is_share : Option Addr} {sl_L_is_share : Array (Option Value)} {oc_L_is_share kV_L_is_share dc_L_is_share pm_L_is_share cd_L_is_share ct_L_is_share : Value}
    {f_L_wrong_column : Addr} {od_L_wrong_column an_L_wrong_column : Option Addr} {sl_L_wrong_column : Array (Option Value)} {oc_L_wrong_column kV_L_wrong_column dc_L_wrong_column pm_L_wrong_column cd_L_wrong_column ct_L_wrong_column : Value}
    {f_L_told_column : Addr} {od_L_told_column an_L_told_column : Option Addr} {sl_L_told_column : Array (Option Value)} {oc_L_told_column kV_L_told_column dc_L_told_column pm_L_told_column cd_L_told_column ct_L_told_column : Value}
    {f_L_texts_right : Addr} {od_L_texts_right an_L_texts_right : Option Addr} {sl_L_texts_right : Array (Option Value)} {oc_L_texts_right kV_L_texts_right dc_L_texts_right pm_L_texts_right cd_L_texts_right ct_L_texts_right : Value}
    {f_law : Addr} {od_law an_law : Option Addr} {sl_law : Array (Option Value)} {oc_law kV_law dc_law pm_law cd_law ct_law : Value}
    {tk_FIGURES : Tok}
    {x1_Share_add x2_Share_add : Option Value}
    {x1_Share_sub x2_Share_sub : Option Value}
    {x1_Share_mul x2_Share_mul : Option Value}
    {nm_BadText qn_BadText : Str} {N_BadText : Addr} {bs_BadText : List Value} {sn_BadText : List Str} {sub_BadText : List Value} {ab_BadText : Bool} {col_BadText : Option Bool} {dd_BadText : Option Addr} {m0_BadText m1_BadText m2_BadText m3_BadText m5_BadText : Option Value} {bm_BadText : List Value}
    {f_BadTextU_initU cc_BadTextU_initU : Addr} {od_BadTextU_initU an_BadTextU_initU : Option Addr} {sl_BadTextU_initU : Array (Option Value)} {oc_BadTextU_initU kV_BadTextU_initU dc_BadTextU_initU pm_BadTextU_initU ct_BadTextU_initU : Value} {cda_BadTextU_initU : Addr} {ccl_BadTextU_initU ocl_BadTextU_initU : Value} {cdd_BadTextU_initU ocd_BadTextU_initU : Option Addr} {cvs_BadTextU_initU : Array Value} {ccs_BadTextU_initU ocs_BadTextU_initU : Array (Option Value)} {fl_BadTextU_initU : Str} {tf_BadTextU_initU : Tok}
    {nm_BadNumber qn_BadNumber : Str} {N_BadNumber : Addr} {bs_BadNumber : List Value} {sn_BadNumber : List Str} {sub_BadNumber : List Value} {ab_BadNumber : Bool} {col_BadNumber : Option Bool} {dd_BadNumber : Option Addr} {m0_BadNumber m1_BadNumber m2_BadNumber m3_BadNumber m5_BadNumber : Option Value} {bm_BadNumber : List Value}
    {f_BadNumberU_initU cc_BadNumberU_initU : Addr} {od_BadNumberU_initU an_BadNumberU_initU : Option Addr} {sl_BadNumberU_initU : Array (Option Value)} {oc_BadNumberU_initU kV_BadNumberU_initU dc_BadNumberU_initU pm_BadNumberU_initU ct_BadNumberU_initU : Value} {cda_BadNumberU_initU : Addr} {ccl_BadNumberU_initU ocl_BadNumberU_initU : Value} {cdd_BadNumberU_initU ocd_BadNumberU_initU : Option Addr} {cvs_BadNumberU_initU : Array Value} {ccs_BadNumberU_initU ocs_BadNumberU_initU : Array (Option Value)} {fl_BadNumberU_initU : Str} {tf_BadNumberU_initU : Tok}
    (htop : (l.prog.main.scope.names.lookup ("super" : Str)).isSome = false)
    (g_Share : PySem.W.nsIn K mainGlobals "Share" = some (some (.ref C_Share)))
    (g_BadText : PySem.W.nsIn K mainGlobals "BadText" = some (some (.ref C_BadText)))
    (g_BadNumber : PySem.W.nsIn K mainGlobals "BadNumber" = some (some (.ref C_BadNumber)))
    (a_divisor_of : PySem.W.nsIn K mainGlobals "divisor_of" = some (some (.ref f_divisor_of)))
    (l_divisor_of : K.lookup f_divisor_of = some ⟨oc_divisor_of, od_divisor_of, .func (PySem.W.fnOf "divisor_of" "divisor_of" (defArgs s_divisor_of) (defBody s_divisor_of) (defScope s_divisor_of) .none kV_divisor_of dc_divisor_of pm_divisor_of an_divisor_of cd_divisor_of ct_divisor_of), sl_divisor_of⟩)
    (c_divisor_of : PySem.W.codeIn K cd_divisor_of "divisor_of" = true)
    (k_divisor_of : PySem.W.keepIn K (.ref f_divisor_of) = true)
    (a_share_parts : PySem.W.nsIn K mainGlobals "share_parts" = some (some (.ref f_share_parts)))
    (l_share_parts : K.lookup f_share_parts = some ⟨oc_share_parts, od_share_parts, .func (PySem.W.fnOf "share_parts" "share_parts" (defArgs s_share_parts) (defBody s_share_parts) (defScope s_share_parts) .none kV_share_parts dc_share_parts pm_share_parts an_share_parts cd_share_parts ct_share_parts), sl_share_parts⟩)
    (c_share_parts : PySem.W.codeIn K cd_share_parts "share_parts" = true)
    (k_share_parts : PySem.W.keepIn K (.ref f_share_parts) = true)
    (a_ShareU_initU : PySem.W.findIn K (.ref C_Share) "__init__" = some (some (.ref f_ShareU_initU)))
    (i_ShareU_initU : PySem.W.isFn K (.ref f_ShareU_initU) = true)
    (l_ShareU_initU : K.lookup f_ShareU_initU = some ⟨oc_ShareU_initU, od_ShareU_initU, .func (PySem.W.fnOf "__init__" "Share.__init__" (defArgs s_ShareU_initU) (defBody s_ShareU_initU) (defScope s_ShareU_initU) (.ref T_ShareU_initU) kV_ShareU_initU dc_ShareU_initU pm_ShareU_initU an_ShareU_initU cd_ShareU_initU ct_ShareU_initU), sl_ShareU_initU⟩)
    (t_ShareU_initU : K.lookup T_ShareU_initU = some ⟨oT_ShareU_initU, dT_ShareU_initU, .seq #[.int (1) tk0_ShareU_initU] nT_ShareU_initU, sT_ShareU_initU⟩)
    (c_ShareU_initU : PySem.W.codeIn K cd_ShareU_initU "Share.__init__" = true)
    (k_ShareU_initU : PySem.W.keepIn K (.ref f_ShareU_initU) = true)
    (a_Share_written : PySem.W.findIn K (.ref C_Share) "written" = some (some (.ref f_Share_written)))
    (i_Share_written : PySem.W.isFn K (.ref f_Share_written) = true)
    (l_Share_written : K.lookup f_Share_written = some ⟨oc_Share_written, od_Share_written, .func (PySem.W.fnOf "written" "Share.written" (defArgs s_Share_written) (defBody s_Share_written) (defScope s_Share_written) .none kV_Share_written dc_Share_written pm_Share_written an_Share_written cd_Share_written ct_Share_written), sl_Share_written⟩)
    (c_Share_written : PySem.W.codeIn K cd_Share_written "Share.written" = true)
    (k_Share_written : PySem.W.keepIn K (.ref f_Share_written) = true)
    (a_ShareU_addU : PySem.W.findIn K (.ref C_Share) "__add__" = some (some (.ref f_ShareU_addU)))
    (i_ShareU_addU : PySem.W.isFn K (.ref f_ShareU_addU) = true)
    (l_ShareU_addU : K.lookup f_ShareU_addU = some ⟨oc_ShareU_addU, od_ShareU_addU, .func (PySem.W.fnOf "__add__" "Share.__add__" (defArgs s_ShareU_addU) (defBody s_ShareU_addU) (defScope s_ShareU_addU) .none kV_ShareU_addU dc_ShareU_addU pm_ShareU_addU an_ShareU_addU cd_ShareU_addU ct_ShareU_addU), sl_ShareU_addU⟩)
    (c_ShareU_addU : PySem.W.codeIn K cd_ShareU_addU "Share.__add__" = true)
    (k_ShareU_addU : PySem.W.keepIn K (.ref f_ShareU_addU) = true)
    (a_ShareU_subU : PySem.W.findIn K (.ref C_Share) "__sub__" = some (some (.ref f_ShareU_subU)))
    (i_ShareU_subU : PySem.W.isFn K (.ref f_ShareU_subU) = true)
    (l_ShareU_subU : K.lookup f_ShareU_subU = some ⟨oc_ShareU_subU, od_ShareU_subU, .func (PySem.W.fnOf "__sub__" "Share.__sub__" (defArgs s_ShareU_subU) (defBody s_ShareU_subU) (defScope s_ShareU_subU) .none kV_ShareU_subU dc_ShareU_subU pm_ShareU_subU an_ShareU_subU cd_ShareU_subU ct_ShareU_subU), sl_ShareU_subU⟩)
    (c_ShareU_subU : PySem.W.codeIn K cd_ShareU_subU "Share.__sub__" = true)
    (k_ShareU_subU : PySem.W.keepIn K (.ref f_ShareU_subU) = true)
    (a_ShareU_mulU : PySem.W.findIn K (.ref C_Share) "__mul__" = some (some (.ref f_ShareU_mulU)))
    (i_ShareU_mulU : PySem.W.isFn K (.ref f_ShareU_mulU) = true)
    (l_ShareU_mulU : K.lookup f_ShareU_mulU = some ⟨oc_ShareU_mulU, od_ShareU_mulU, .func (PySem.W.fnOf "__mul__" "Share.__mul__" (defArgs s_ShareU_mulU) (defBody s_ShareU_mulU) (defScope s_ShareU_mulU) .none kV_ShareU_mulU dc_ShareU_mulU pm_ShareU_mulU an_ShareU_mulU cd_ShareU_mulU ct_ShareU_mulU), sl_ShareU_mulU⟩)
    (c_ShareU_mulU : PySem.W.codeIn K cd_ShareU_mulU "Share.__mul__" = true)
    (k_ShareU_mulU : PySem.W.keepIn K (.ref f_ShareU_mulU) = true)
    (a_Share_over : PySem.W.findIn K (.ref C_Share) "over" = some (some (.ref f_Share_over)))
    (i_Share_over : PySem.W.isFn K (.ref f_Share_over) = true)
    (l_Share_over : K.lookup f_Share_over = some ⟨oc_Share_over, od_Share_over, .func (PySem.W.fnOf "over" "Share.over" (defArgs s_Share_over) (defBody s_Share_over) (defScope s_Share_over) .none kV_Share_over dc_Share_over pm_Share_over an_Share_over cd_Share_over ct_Share_over), sl_Share_over⟩)
    (c_Share_over : PySem.W.codeIn K cd_Share_over "Share.over" = true)
    (k_Share_over : PySem.W.keepIn K (.ref f_Share_over) = true)
    (a_Share_compared : PySem.W.findIn K (.ref C_Share) "compared" = some (some (.ref f_Share_compared)))
    (i_Share_compared : PySem.W.isFn K (.ref f_Share_compared) = true)
    (l_Share_compared : K.lookup f_Share_compared = some ⟨oc_Share_compared, od_Share_compared, .func (PySem.W.fnOf "compared" "Share.compared" (defArgs s_Share_compared) (defBody s_Share_compared) (defScope s_Share_compared) .none kV_Share_compared dc_Share_compared pm_Share_compared an_Share_compared cd_Share_compared ct_Share_compared), sl_Share_compared⟩)
    (c_Share_compared : PySem.W.codeIn K cd_Share_compared "Share.compared" = true)
    (k_Share_compared : PySem.W.keepIn K (.ref f_Share_compared) = true)
    (a_ShareU_eqU : PySem.W.findIn K (.ref C_Share) "__eq__" = some (some (.ref f_ShareU_eqU)))
    (i_ShareU_eqU : PySem.W.isFn K (.ref f_ShareU_eqU) = true)
    (l_ShareU_eqU : K.lookup f_ShareU_eqU = some ⟨oc_ShareU_eqU, od_ShareU_eqU, .func (PySem.W.fnOf "__eq__" "Share.__eq__" (defArgs s_ShareU_eqU) (defBody s_ShareU_eqU) (defScope s_ShareU_eqU) .none kV_ShareU_eqU dc_ShareU_eqU pm_ShareU_eqU an_ShareU_eqU cd_ShareU_eqU ct_ShareU_eqU), sl_ShareU_eqU⟩)
    (c_ShareU_eqU : PySem.W.codeIn K cd_ShareU_eqU "Share.__eq__" = true)
    (k_ShareU_eqU : PySem.W.keepIn K (.ref f_ShareU_eqU) = true)
    (a_Share_under : PySem.W.findIn K (.ref C_Share) "under" = some (some (.ref f_Share_under)))
    (i_Share_under : PySem.W.isFn K (.ref f_Share_under) = true)
    (l_Share_under : K.lookup f_Share_under = some ⟨oc_Share_under, od_Share_under, .func (PySem.W.fnOf "under" "Share.under" (defArgs s_Share_under) (defBody s_Share_under) (defScope s_Share_under) .none kV_Share_under dc_Share_under pm_Share_under an_Share_under cd_Share_under ct_Share_under), sl_Share_under⟩)
    (c_Share_under : PySem.W.codeIn K cd_Share_under "Share.under" = true)
    (k_Share_under : PySem.W.keepIn K (.ref f_Share_under) = true)
    (a_Share_at_most : PySem.W.findIn K (.ref C_Share) "at_most" = some (some (.ref f_Share_at_most)))
    (i_Share_at_most : PySem.W.isFn K (.ref f_Share_at_most) = true)
    (l_Share_at_most : K.lookup f_Share_at_most = some ⟨oc_Share_at_most, od_Share_at_most, .func (PySem.W.fnOf "at_most" "Share.at_most" (defArgs s_Share_at_most) (defBody s_Share_at_most) (defScope s_Share_at_most) .none kV_Share_at_most dc_Share_at_most pm_Share_at_most an_Share_at_most cd_Share_at_most ct_Share_at_most), sl_Share_at_most⟩)
    (c_Share_at_most : PySem.W.codeIn K cd_Share_at_most "Share.at_most" = true)
    (k_Share_at_most : PySem.W.keepIn K (.ref f_Share_at_most) = true)
    (a_number_end : PySem.W.nsIn K mainGlobals "number_end" = some (some (.ref f_number_end)))
    (l_number_end : K.lookup f_number_end = some ⟨oc_number_end, od_number_end, .func (PySem.W.fnOf "number_end" "number_end" (defArgs s_number_end) (defBody s_number_end) (defScope s_number_end) .none kV_number_end dc_number_end pm_number_end an_number_end cd_number_end ct_number_end), sl_number_end⟩)
    (c_number_end : PySem.W.codeIn K cd_number_end "number_end" = true)
    (k_number_end : PySem.W.keepIn K (.ref f_number_end) = true)
    (a_share_of : PySem.W.nsIn K mainGlobals "share_of" = some (some (.ref f_share_of)))
    (l_share_of : K.lookup f_share_of = some ⟨oc_share_of, od_share_of, .func (PySem.W.fnOf "share_of" "share_of" (defArgs s_share_of) (defBody s_share_of) (defScope s_share_of) .none kV_share_of dc_share_of pm_share_of an_share_of cd_share_of ct_share_of), sl_share_of⟩)
    (c_share_of : PySem.W.codeIn K cd_share_of "share_of" = true)
    (k_share_of : PySem.W.keepIn K (.ref f_share_of) = true)
    (a_L_pen : PySem.W.nsIn K mainGlobals "_law_pen" = some (some (.ref f_L_pen)))
    (l_L_pen : K.lookup f_L_pen = some ⟨oc_L_pen, od_L_pen, .func (PySem.W.fnOf "_law_pen" "_law_pen" (defArgs s_L_pen) (defBody s_L_pen) (defScope s_L_pen) .none kV_L_pen dc_L_pen pm_L_pen an_L_pen cd_L_pen ct_L_pen), sl_L_pen⟩)
    (c_L_pen : PySem.W.codeIn K cd_L_pen "_law_pen" = true)
    (k_L_pen : PySem.W.keepIn K (.ref f_L_pen) = true)
    (a_L_draw : PySem.W.nsIn K mainGlobals "_law_draw" = some (some (.ref f_L_draw)))
    (l_L_draw : K.lookup f_L_draw = some ⟨oc_L_draw, od_L_draw, .func (PySem.W.fnOf "_law_draw" "_law_draw" (defArgs s_L_draw) (defBody s_L_draw) (defScope s_L_draw) .none kV_L_draw dc_L_draw pm_L_draw an_L_draw cd_L_draw ct_L_draw), sl_L_draw⟩)
    (c_L_draw : PySem.W.codeIn K cd_L_draw "_law_draw" = true)
    (k_L_draw : PySem.W.keepIn K (.ref f_L_draw) = true)
    (a_L_pick : PySem.W.nsIn K mainGlobals "_law_pick" = some (some (.ref f_L_pick)))
    (l_L_pick : K.lookup f_L_pick = some ⟨oc_L_pick, od_L_pick, .func (PySem.W.fnOf "_law_pick" "_law_pick" (defArgs s_L_pick) (defBody s_L_pick) (defScope s_L_pick) .none kV_L_pick dc_L_pick pm_L_pick an_L_pick cd_L_pick ct_L_pick), sl_L_pick⟩)
    (c_L_pick : PySem.W.codeIn K cd_L_pick "_law_pick" = true)
    (k_L_pick : PySem.W.keepIn K (.ref f_L_pick) = true)
    (a_L_integer : PySem.W.nsIn K mainGlobals "_law_integer" = some (some (.ref f_L_integer)))
    (l_L_integer : K.lookup f_L_integer = some ⟨oc_L_integer, od_L_integer, .func (PySem.W.fnOf "_law_integer" "_law_integer" (defArgs s_L_integer) (defBody s_L_integer) (defScope s_L_integer) .none kV_L_integer dc_L_integer pm_L_integer an_L_integer cd_L_integer ct_L_integer), sl_L_integer⟩)
    (c_L_integer : PySem.W.codeIn K cd_L_integer "_law_integer" = true)
    (k_L_integer : PySem.W.keepIn K (.ref f_L_integer) = true)
    (a_L_is_share : PySem.W.nsIn K mainGlobals "_law_is_share" = some (some (.ref f_L_is_share)))
    (l_L_is_share : K.lookup f_L_is_share = some ⟨oc_L_is_share, od_L_is_share, .func (PySem.W.fnOf "_law_is_share" "_law_is_share" (defArgs s_L_is_share) (defBody s_L_is_share) (defScope s_L_is_share) .none kV_L_is_share dc_L_is_share pm_L_is_share an_L_is_share cd_L_is_share ct_L_is_share), sl_L_is_share⟩)
    (c_L_is_share : PySem.W.codeIn K cd_L_is_share "_law_is_share" = true)
    (k_L_is_share : PySem.W.keepIn K (.ref f_L_is_share) = true)
    (a_L_wrong_column : PySem.W.nsIn K mainGlobals "_law_wrong_column" = some (some (.ref f_L_wrong_column)))
    (l_L_wrong_column : K.lookup f_L_wrong_column = some ⟨oc_L_wrong_column, od_L_wrong_column, .func (PySem.W.fnOf "_law_wrong_column" "_law_wrong_column" (defArgs s_L_wrong_column) (defBody s_L_wrong_column) (defScope s_L_wrong_column) .none kV_L_wrong_column dc_L_wrong_column pm_L_wrong_column an_L_wrong_column cd_L_wrong_column ct_L_wrong_column), sl_L_wrong_column⟩)
    (c_L_wrong_column : PySem.W.codeIn K cd_L_wrong_column "_law_wrong_column" = true)
    (k_L_wrong_column : PySem.W.keepIn K (.ref f_L_wrong_column) = true)
    (a_L_told_column : PySem.W.nsIn K mainGlobals "_law_told_column" = some (some (.ref f_L_told_column)))
    (l_L_told_column : K.lookup f_L_told_column = some ⟨oc_L_told_column, od_L_told_column, .func (PySem.W.fnOf "_law_told_column" "_law_told_column" (defArgs s_L_told_column) (defBody s_L_told_column) (defScope s_L_told_column) .none kV_L_told_column dc_L_told_column pm_L_told_column an_L_told_column cd_L_told_column ct_L_told_column), sl_L_told_column⟩)
    (c_L_told_column : PySem.W.codeIn K cd_L_told_column "_law_told_column" = true)
    (k_L_told_column : PySem.W.keepIn K (.ref f_L_told_column) = true)
    (a_L_texts_right : PySem.W.nsIn K mainGlobals "_law_texts_right" = some (some (.ref f_L_texts_right)))
    (l_L_texts_right : K.lookup f_L_texts_right = some ⟨oc_L_texts_right, od_L_texts_right, .func (PySem.W.fnOf "_law_texts_right" "_law_texts_right" (defArgs s_L_texts_right) (defBody s_L_texts_right) (defScope s_L_texts_right) .none kV_L_texts_right dc_L_texts_right pm_L_texts_right an_L_texts_right cd_L_texts_right ct_L_texts_right), sl_L_texts_right⟩)
    (c_L_texts_right : PySem.W.codeIn K cd_L_texts_right "_law_texts_right" = true)
    (k_L_texts_right : PySem.W.keepIn K (.ref f_L_texts_right) = true)
    (a_law : PySem.W.nsIn K mainGlobals "law" = some (some (.ref f_law)))
    (l_law : K.lookup f_law = some ⟨oc_law, od_law, .func (PySem.W.fnOf "law" "law" (defArgs s_law) (defBody s_law) (defScope s_law) .none kV_law dc_law pm_law an_law cd_law ct_law), sl_law⟩)
    (c_law : PySem.W.codeIn K cd_law "law" = true)
    (k_law : PySem.W.keepIn K (.ref f_law) = true)
    (z_abs : PySem.W.nsIn K mainGlobals "abs" = some none)
    (z_bool : PySem.W.nsIn K mainGlobals "bool" = some none)
    (z_int : PySem.W.nsIn K mainGlobals "int" = some none)
    (z_isinstance : PySem.W.nsIn K mainGlobals "isinstance" = some none)
    (z_len : PySem.W.nsIn K mainGlobals "len" = some none)
    (z_list : PySem.W.nsIn K mainGlobals "list" = some none)
    (z_range : PySem.W.nsIn K mainGlobals "range" = some none)
    (z_str : PySem.W.nsIn K mainGlobals "str" = some none)
    (z_tuple : PySem.W.nsIn K mainGlobals "tuple" = some none)
    (q_FIGURES : PySem.W.nsIn K mainGlobals "FIGURES" = some (some (.str "0123456789" tk_FIGURES)))
    (kc_Share : PySem.W.keepIn K (.ref C_Share) = true)
    (kc_BadText : PySem.W.keepIn K (.ref C_BadText) = true)
    (kc_BadNumber : PySem.W.keepIn K (.ref C_BadNumber) = true)
    (hn0 : PySem.W.specialIn K (.builtin "object.__class__") "__get__" = some (some (.builtin "getset_descriptor.__get__")))
    (htk0 : PySem.W.takesIn K (.builtin "object.__class__") = some true)
    (pg_Share : PySem.W.plainGet K C_Share Str.empty = true)
    (hd_Share : PySem.W.hasDictIn K C_Share = true)
    (po_Share : PySem.W.plainOver K C_Share = true)
    (sa_Share : PySem.W.findIn K (.ref C_Share) "__setattr__" = some (some (.builtin "object.__setattr__")))
    (mk_Share : PySem.W.makesIn K C_Share = true)
    (ha_Share : PySem.W.findIn K (.ref C_Share) "__class__" = some (some (.builtin "object.__class__")))
    (hm_Share : PySem.W.mroIn K C_Share (.type "object") = some true)
    (tc_Share : PySem.W.typeIn K (.ref C_Share) = some (.type "type"))
    (na_top_Share : PySem.W.findIn K (.ref C_Share) "top" = some none)
    (na_bottom_Share : PySem.W.findIn K (.ref C_Share) "bottom" = some none)
    (sf_Share : PySem.W.selfFirst K C_Share = true)
    (ne_Share : PySem.W.findIn K (.ref C_Share) "__ne__" = some (some (.builtin "object.__ne__")))
    (nb_Share : PySem.W.mroIn K C_Share (.type "bool") = some false)
    (rr_Share_add : PySem.W.findIn K (.ref C_Share) "__radd__" = some none)
    (i1_Share_add : PySem.W.findIn K (.type "int") "__add__" = some x1_Share_add)
    (i2_Share_add : PySem.W.findIn K (.type "int") "__radd__" = some x2_Share_add)
    (rr_Share_sub : PySem.W.findIn K (.ref C_Share) "__rsub__" = some none)
    (i1_Share_sub : PySem.W.findIn K (.type "int") "__sub__" = some x1_Share_sub)
    (i2_Share_sub : PySem.W.findIn K (.type "int") "__rsub__" = some x2_Share_sub)
    (rr_Share_mul : PySem.W.findIn K (.ref C_Share) "__rmul__" = some none)
    (i1_Share_mul : PySem.W.findIn K (.type "int") "__mul__" = some x1_Share_mul)
    (i2_Share_mul : PySem.W.findIn K (.type "int") "__rmul__" = some x2_Share_mul)
    (xl_BadText : K.lookup C_BadText = some (excClassObj nm_BadText qn_BadText C_BadText N_BadText bs_BadText bm_BadText true sn_BadText sub_BadText ab_BadText col_BadText dd_BadText m0_BadText m1_BadText m2_BadText m3_BadText m5_BadText "ValueError.__new__"))
    (xb_BadText : PySem.HandSPX.refsVE bm_BadText = true)
    (sa_BadText : PySem.W.findIn K (.ref C_BadText) "__setattr__" = some (some (.builtin "object.__setattr__")))
    (ga_BadText : PySem.W.findIn K (.ref C_BadText) "__getattribute__" = some (some (.builtin "BaseException.__getattribute__")))
    (gg_BadText : PySem.W.findIn K (.ref C_BadText) "__getattr__" = some none)
    (ex_BadText : PySem.W.subIn K (.ref C_BadText) (.type "BaseException") = some true)
    (ty_BadText : PySem.W.typeIn K (.ref C_BadText) = some (.type "type"))
    (hd_BadText : PySem.W.hasDictIn K C_BadText = true)
    (ve_BadText : PySem.W.subIn K (.ref C_BadText) (.type "ValueError") = some true)
    (ms_BadText : PySem.W.mroIn K C_BadText (.ref C_BadText) = some true)
    (si_BadText : PySem.W.ks_superIn K C_BadText C_BadText "__init__" = some (some (.builtin "ValueError.__init__")))
    (a_BadTextU_initU : PySem.W.findIn K (.ref C_BadText) "__init__" = some (some (.ref f_BadTextU_initU)))
    (i_BadTextU_initU : PySem.W.typeIn K (.ref f_BadTextU_initU) = some (.type "function"))
    (l_BadTextU_initU : K.lookup f_BadTextU_initU = some ⟨oc_BadTextU_initU, od_BadTextU_initU, .func (Up.upFn "__init__" "BadText.__init__" (defArgs s_BadTextU_initU) (defBody s_BadTextU_initU) (defScope s_BadTextU_initU) kV_BadTextU_initU dc_BadTextU_initU pm_BadTextU_initU an_BadTextU_initU (.ref cda_BadTextU_initU) ct_BadTextU_initU cc_BadTextU_initU), sl_BadTextU_initU⟩)
    (c_BadTextU_initU : PySem.W.codeIn K (.ref cda_BadTextU_initU) "BadText.__init__" = true)
    (ce_BadTextU_initU : K.lookup cc_BadTextU_initU = some ⟨ocl_BadTextU_initU, ocd_BadTextU_initU, .cell (some (.ref C_BadText)), ocs_BadTextU_initU⟩)
    (cl_BadTextU_initU : K.lookup cda_BadTextU_initU = some ⟨ccl_BadTextU_initU, cdd_BadTextU_initU, .fields cvs_BadTextU_initU, ccs_BadTextU_initU⟩)
    (cv_BadTextU_initU : cvs_BadTextU_initU[2]? = some (.str fl_BadTextU_initU tf_BadTextU_initU))
    (cf_BadTextU_initU : ((l.prog.main.file : Str) == fl_BadTextU_initU) = true)
    (nf_BadText_line : PySem.W.findIn K (.ref C_BadText) "line" = some none)
    (nf_BadText_column : PySem.W.findIn K (.ref C_BadText) "column" = some none)
    (xl_BadNumber : K.lookup C_BadNumber = some (excClassObj nm_BadNumber qn_BadNumber C_BadNumber N_BadNumber bs_BadNumber bm_BadNumber true sn_BadNumber sub_BadNumber ab_BadNumber col_BadNumber dd_BadNumber m0_BadNumber m1_BadNumber m2_BadNumber m3_BadNumber m5_BadNumber "ValueError.__new__"))
    (xb_BadNumber : PySem.HandSPX.refsVE bm_BadNumber = true)
    (sa_BadNumber : PySem.W.findIn K (.ref C_BadNumber) "__setattr__" = some (some (.builtin "object.__setattr__")))
    (ga_BadNumber : PySem.W.findIn K (.ref C_BadNumber) "__getattribute__" = some (some (.builtin "BaseException.__getattribute__")))
    (gg_BadNumber : PySem.W.findIn K (.ref C_BadNumber) "__getattr__" = some none)
    (ex_BadNumber : PySem.W.subIn K (.ref C_BadNumber) (.type "BaseException") = some true)
    (ty_BadNumber : PySem.W.typeIn K (.ref C_BadNumber) = some (.type "type"))
    (hd_BadNumber : PySem.W.hasDictIn K C_BadNumber = true)
    (ve_BadNumber : PySem.W.subIn K (.ref C_BadNumber) (.type "ValueError") = some true)
    (ms_BadNumber : PySem.W.mroIn K C_BadNumber (.ref C_BadNumber) = some true)
    (si_BadNumber : PySem.W.ks_superIn K C_BadNumber C_BadNumber "__init__" = some (some (.builtin "ValueError.__init__")))
    (a_BadNumberU_initU : PySem.W.findIn K (.ref C_BadNumber) "__init__" = some (some (.ref f_BadNumberU_initU)))
    (i_BadNumberU_initU : PySem.W.typeIn K (.ref f_BadNumberU_initU) = some (.type "function"))
    (l_BadNumberU_initU : K.lookup f_BadNumberU_initU = some ⟨oc_BadNumberU_initU, od_BadNumberU_initU, .func (Up.upFn "__init__" "BadNumber.__init__" (defArgs s_BadNumberU_initU) (defBody s_BadNumberU_initU) (defScope s_BadNumberU_initU) kV_BadNumberU_initU dc_BadNumberU_initU pm_BadNumberU_initU an_BadNumberU_initU (.ref cda_BadNumberU_initU) ct_BadNumberU_initU cc_BadNumberU_initU), sl_BadNumberU_initU⟩)
    (c_BadNumberU_initU : PySem.W.codeIn K (.ref cda_BadNumberU_initU) "BadNumber.__init__" = true)
    (ce_BadNumberU_initU : K.lookup cc_BadNumberU_initU = some ⟨ocl_BadNumberU_initU, ocd_BadNumberU_initU, .cell (some (.ref C_BadNumber)), ocs_BadNumberU_initU⟩)
    (cl_BadNumberU_initU : K.lookup cda_BadNumberU_initU = some ⟨ccl_BadNumberU_initU, cdd_BadNumberU_initU, .fields cvs_BadNumberU_initU, ccs_BadNumberU_initU⟩)
    (cv_BadNumberU_initU : cvs_BadNumberU_initU[2]? = some (.str fl_BadNumberU_initU tf_BadNumberU_initU))
    (cf_BadNumberU_initU : ((l.prog.main.file : Str) == fl_BadNumberU_initU) = true)
    (nf_BadNumber_what : PySem.W.findIn K (.ref C_BadNumber) "what" = some none)
    (nf_BadNumber_number : PySem.W.findIn K (.ref C_BadNumber) "number" = some none)
    (tp0 : PySem.W.nsIn K cStatics "thirdparty.any" = some none)
    (z_super : PySem.W.nsIn K mainGlobals "super" = some none)
    (em_BadNumber_BadNumber : PySem.W.mroIn K C_BadNumber (.ref C_BadNumber) = some true)
    (em_BadText_BadText : PySem.W.mroIn K C_BadText (.ref C_BadText) = some true)
    : ∃ fd : FuncData, (∀ (s : Shared) (v : Value), BindsTo s fd ⟨[v], []⟩ [("_law_script", v)]) ∧ ∀ base : Heap, K.In base → base.Ns mainGlobals mg → FnOk l.prog w K mg base CX0 8 fa fd ["_law_script"] (spLaw K) := by
  have e := hfa.symm.trans (PySem.W.mg_of X G a_law)
  cases e
  have F_divisor_of := fun_mk (st := s_divisor_of) l_divisor_of c_divisor_of k_divisor_of
  have b_divisor_of := F_divisor_of.binds (ps := ["one", "two"]) fun _ _ _ _ _ _ us hl => match us, hl with | [_, _], _ => rfl
  have F_share_parts := fun_mk (st := s_share_parts) l_share_parts c_share_parts k_share_parts
  have b_share_parts := F_share_parts.binds (ps := ["value"]) fun _ _ _ _ _ _ us hl => match us, hl with | [_], _ => rfl
  have F_ShareU_initU : FunD K "__init__" "Share.__init__" (defArgs s_ShareU_initU) (defBody s_ShareU_initU) (defScope s_ShareU_initU) [.int (1)] [] f_ShareU_initU _ := ⟨⟨_, _, _, _, _, _, _, _, _, _, rfl, l_ShareU_initU, c_ShareU_initU, .inr ⟨by simp, T_ShareU_initU, _, _, _, rfl, t_ShareU_initU, rfl, (.cons ⟨_, rfl⟩ .nil)⟩, .inl rfl⟩, k_ShareU_initU⟩
  obtain ⟨dsF_ShareU_initU, rF_ShareU_initU, b_ShareU_initU⟩ := F_ShareU_initU.binds1 (ps := ["self", "top", "bottom"]) 3 1 (by simp) rfl fun T kV doc pm an cdv ct us its hu hi => match us, its, hu, hi with | [_, _, _], [_], _, _ => ⟨_, rfl, rfl⟩
  obtain ⟨dsD_ShareU_initU, rD_ShareU_initU, bd_ShareU_initU⟩ := F_ShareU_initU.binds1 (ps := ["self", "top", "bottom"]) 2 0 (by simp) rfl fun T kV doc pm an cdv ct us its hu hi => match us, its, hu, hi with | [_, _], [_], _, _ => ⟨_, rfl, rfl⟩
  have F_Share_written := fun_mk (st := s_Share_written) l_Share_written c_Share_written k_Share_written
  have b_Share_written := F_Share_written.binds (ps := ["self"]) fun _ _ _ _ _ _ us hl => match us, hl with | [_], _ => rfl
  have F_ShareU_addU := fun_mk (st := s_ShareU_addU) l_ShareU_addU c_ShareU_addU k_ShareU_addU
  have b_ShareU_addU := F_ShareU_addU.binds (ps := ["self", "other"]) fun _ _ _ _ _ _ us hl => match us, hl with | [_, _], _ => rfl
  have F_ShareU_subU := fun_mk (st := s_ShareU_subU) l_ShareU_subU c_ShareU_subU k_ShareU_subU
  have b_ShareU_subU := F_ShareU_subU.binds (ps := ["self", "other"]) fun _ _ _ _ _ _ us hl => match us, hl with | [_, _], _ => rfl
  have F_ShareU_mulU := fun_mk (st := s_ShareU_mulU) l_ShareU_mulU c_ShareU_mulU k_ShareU_mulU
  have b_ShareU_mulU := F_ShareU_mulU.binds (ps := ["self", "other"]) fun _ _ _ _ _ _ us hl => match us, hl with | [_, _], _ => rfl
  have F_Share_over := fun_mk (st := s_Share_over) l_Share_over c_Share_over k_Share_over
  have b_Share_over := F_Share_over.binds (ps := ["self", "other"]) fun _ _ _ _ _ _ us hl => match us, hl with | [_, _], _ => rfl
  have F_Share_compared := fun_mk (st := s_Share_compared) l_Share_compared c_Share_compared k_Share_compared
  have b_Share_compared := F_Share_compared.binds (ps := ["self", "other"]) fun _ _ _ _ _ _ us hl => match us, hl with | [_, _], _ => rfl
  have F_ShareU_eqU := fun_mk (st := s_ShareU_eqU) l_ShareU_eqU c_ShareU_eqU k_ShareU_eqU
  have b_ShareU_eqU := F_ShareU_eqU.binds (ps := ["self", "other"]) fun _ _ _ _ _ _ us hl => match us, hl with | [_, _], _ => rfl
  have F_Share_under := fun_mk (st := s_Share_under) l_Share_under c_Share_under k_Share_under
  have b_Share_under := F_Share_under.binds (ps := ["self", "other"]) fun _ _ _ _ _ _ us hl => match us, hl with | [_, _], _ => rfl
  have F_Share_at_most := fun_mk (st := s_Share_at_most) l_Share_at_most c_Share_at_most k_Share_at_most
  have b_Share_at_most := F_Share_at_most.binds (ps := ["self", "other"]) fun _ _ _ _ _ _ us hl => match us, hl with | [_, _], _ => rfl
  have F_number_end := fun_mk (st := s_number_end) l_number_end c_number_end k_number_end
  have b_number_end := F_number_end.binds (ps := ["text", "at"]) fun _ _ _ _ _ _ us hl => match us, hl with | [_, _], _ => rfl
  have F_share_of := fun_mk (st := s_share_of) l_share_of c_share_of k_share_of
  have b_share_of := F_share_of.binds (ps := ["text"]) fun _ _ _ _ _ _ us hl => match us, hl with | [_], _ => rfl
  have F_L_pen := fun_mk (st := s_L_pen) l_L_pen c_L_pen k_L_pen
  have b_L_pen := F_L_pen.binds (ps := ["_law_script"]) fun _ _ _ _ _ _ us hl => match us, hl with | [_], _ => rfl
  have F_L_draw := fun_mk (st := s_L_draw) l_L_draw c_L_draw k_L_draw
  have b_L_draw := F_L_draw.binds (ps := ["_law_pen_here", "_law_many"]) fun _ _ _ _ _ _ us hl => match us, hl with | [_, _], _ => rfl
  have F_L_pick := fun_mk (st := s_L_pick) l_L_pick c_L_pick k_L_pick
  have b_L_pick := F_L_pick.binds (ps := ["_law_pen_here", "_law_some"]) fun _ _ _ _ _ _ us hl => match us, hl with | [_, _], _ => rfl
  have F_L_integer := fun_mk (st := s_L_integer) l_L_integer c_L_integer k_L_integer
  have b_L_integer := F_L_integer.binds (ps := ["_law_pen_here"]) fun _ _ _ _ _ _ us hl => match us, hl with | [_], _ => rfl
  have F_L_is_share := fun_mk (st := s_L_is_share) l_L_is_share c_L_is_share k_L_is_share
  have b_L_is_share := F_L_is_share.binds (ps := ["_law_told", "_law_top", "_law_bottom"]) fun _ _ _ _ _ _ us hl => match us, hl with | [_, _, _], _ => rfl
  have F_L_wrong_column := fun_mk (st := s_L_wrong_column) l_L_wrong_column c_L_wrong_column k_L_wrong_column
  have b_L_wrong_column := F_L_wrong_column.binds (ps := ["_law_text"]) fun _ _ _ _ _ _ us hl => match us, hl with | [_], _ => rfl
  have F_L_told_column := fun_mk (st := s_L_told_column) l_L_told_column c_L_told_column k_L_told_column
  have b_L_told_column := F_L_told_column.binds (ps := ["_law_text"]) fun _ _ _ _ _ _ us hl => match us, hl with | [_], _ => rfl
  have F_L_texts_right := fun_mk (st := s_L_texts_right) l_L_texts_right c_L_texts_right k_L_texts_right
  have b_L_texts_right := F_L_texts_right.binds (ps := ["_law_pen_here", "_law_one"]) fun _ _ _ _ _ _ us hl => match us, hl with | [_, _], _ => rfl
  have F_law := fun_mk (st := s_law) l_law c_law k_law
  have b_law := F_law.binds (ps := ["_law_script"]) fun _ _ _ _ _ _ us hl => match us, hl with | [_], _ => rfl
  have T : Txt mg := ⟨⟨_, PySem.W.mg_of X G q_FIGURES, ⟨_, rfl⟩⟩, PySem.W.mg_none_of X G z_abs, PySem.W.mg_none_of X G z_bool, PySem.W.mg_none_of X G z_int, PySem.W.mg_none_of X G z_isinstance, PySem.W.mg_none_of X G z_len, PySem.W.mg_none_of X G z_list, PySem.W.mg_none_of X G z_range, PySem.W.mg_none_of X G z_str, PySem.W.mg_none_of X G z_tuple⟩
  have T_Share : Cl_Share K mg C_Share := ⟨⟨⟨pg_Share, hd_Share, po_Share, sa_Share⟩, ha_Share, hn0, htk0, hm_Share, Own.kit_self⟩, PySem.W.mg_of X G g_Share, tc_Share, na_top_Share, na_bottom_Share, sf_Share, ne_Share, Own.kit_notype nb_Share (by decide +kernel), ⟨sf_Share, rr_Share_add, ⟨_, i1_Share_add⟩, ⟨_, i2_Share_add⟩⟩, ⟨sf_Share, rr_Share_sub, ⟨_, i1_Share_sub⟩, ⟨_, i2_Share_sub⟩⟩, ⟨sf_Share, rr_Share_mul, ⟨_, i1_Share_mul⟩, ⟨_, i2_Share_mul⟩⟩⟩
  refine ⟨PySem.W.fnOf "law" "law" (defArgs s_law) (defBody s_law) (defScope s_law) .none kV_law dc_law pm_law an_law cd_law ct_law, fun s v => .of_eq rfl, fun base _ _ => ?_⟩
  have no_BadText : ∀ g ∈ (["line", "column"] : List Str), PySem.W.findIn K (.ref C_BadText) g = some none := fun g hg => by
    simp only [List.mem_cons, List.not_mem_nil, or_false] at hg
    rcases hg with rfl | rfl
    · exact nf_BadText_line
    · exact nf_BadText_column
  have ox_BadText : OexC K C_BadText := ⟨⟨_, _, _, _, _, _, _, _, _, _, _, _, _, _, _, xl_BadText, xb_BadText⟩, sa_BadText, ex_BadText, ty_BadText, kc_BadText⟩
  have U_BadText : Up.UpC l.prog K mg C_BadText cc_BadTextU_initU (.ref cda_BadTextU_initU) := ⟨ox_BadText, ⟨_, _, _, ce_BadTextU_initU⟩, ⟨_, _, _, _, _, _, _, rfl, cl_BadTextU_initU, cv_BadTextU_initU, cf_BadTextU_initU⟩, tp0, PySem.W.mg_none_of X G z_super, htop, si_BadText, ve_BadText, ms_BadText⟩
  have X_BadText : Up.XCal l.prog w K mg base 1 "BadText" C_BadText ["line", "column"] := ⟨ox_BadText, ⟨ga_BadText, gg_BadText, ex_BadText, hd_BadText⟩, PySem.W.mg_of X G g_BadText, no_BadText, ⟨f_BadTextU_initU, _, ["self", "line", "column"], a_BadTextU_initU, i_BadTextU_initU, ok_BadTextU_initU (P := l.prog) (w := w) (base := base) l_BadTextU_initU c_BadTextU_initU U_BadText no_BadText, .all fun us hl => match us, hl with | [_, _, _], _ => rfl⟩⟩
  have no_BadNumber : ∀ g ∈ (["what", "number"] : List Str), PySem.W.findIn K (.ref C_BadNumber) g = some none := fun g hg => by
    simp only [List.mem_cons, List.not_mem_nil, or_false] at hg
    rcases hg with rfl | rfl
    · exact nf_BadNumber_what
    · exact nf_BadNumber_number
  have ox_BadNumber : OexC K C_BadNumber := ⟨⟨_, _, _, _, _, _, _, _, _, _, _, _, _, _, _, xl_BadNumber, xb_BadNumber⟩, sa_BadNumber, ex_BadNumber, ty_BadNumber, kc_BadNumber⟩
  have U_BadNumber : Up.UpC l.prog K mg C_BadNumber cc_BadNumberU_initU (.ref cda_BadNumberU_initU) := ⟨ox_BadNumber, ⟨_, _, _, ce_BadNumberU_initU⟩, ⟨_, _, _, _, _, _, _, rfl, cl_BadNumberU_initU, cv_BadNumberU_initU, cf_BadNumberU_initU⟩, tp0, PySem.W.mg_none_of X G z_super, htop, si_BadNumber, ve_BadNumber, ms_BadNumber⟩
  have X_BadNumber : Up.XCal l.prog w K mg base 1 "BadNumber" C_BadNumber ["what", "number"] := ⟨ox_BadNumber, ⟨ga_BadNumber, gg_BadNumber, ex_BadNumber, hd_BadNumber⟩, PySem.W.mg_of X G g_BadNumber, no_BadNumber, ⟨f_BadNumberU_initU, _, ["self", "what", "number"], a_BadNumberU_initU, i_BadNumberU_initU, ok_BadNumberU_initU (P := l.prog) (w := w) (base := base) l_BadNumberU_initU c_BadNumberU_initU U_BadNumber no_BadNumber, .all fun us hl => match us, hl with | [_, _, _], _ => rfl⟩⟩
  have exm_BadNumber_BadNumber := Own.exm_own ex_BadNumber hd_BadNumber ty_BadNumber em_BadNumber_BadNumber
  have exm_BadText_BadText := Own.exm_own ex_BadText hd_BadText ty_BadText em_BadText_BadText
  have C_L_pen := cal_of F_L_pen (ok_L_pen (P := l.prog) (w := w) (base := base) F_L_pen T ) (PySem.W.mg_of X G a_L_pen) b_L_pen
  have C_L_draw := cal_of F_L_draw (ok_L_draw (P := l.prog) (w := w) (base := base) F_L_draw T ) (PySem.W.mg_of X G a_L_draw) b_L_draw
  have C_L_integer := cal_of F_L_integer (ok_L_integer (P := l.prog) (w := w) (base := base) F_L_integer T (C_L_draw := C_L_draw)) (PySem.W.mg_of X G a_L_integer) b_L_integer
  have C_L_is_share := cal_of F_L_is_share (ok_L_is_share (P := l.prog) (w := w) (base := base) F_L_is_share T (T_Share := T_Share)) (PySem.W.mg_of X G a_L_is_share) b_L_is_share
  have C_L_pick := cal_of F_L_pick (ok_L_pick (P := l.prog) (w := w) (base := base) F_L_pick T (C_L_draw := C_L_draw)) (PySem.W.mg_of X G a_L_pick) b_L_pick
  have C_number_end := cal_of F_number_end (ok_number_end (P := l.prog) (w := w) (base := base) F_number_end T ) (PySem.W.mg_of X G a_number_end) b_number_end
  have C_divisor_of := cal_of F_divisor_of (ok_divisor_of (P := l.prog) (w := w) (base := base) F_divisor_of T ) (PySem.W.mg_of X G a_divisor_of) b_divisor_of
  have ok0_ShareU_initU := ok_ShareU_initU (P := l.prog) (w := w) (base := base) F_ShareU_initU T (T_Share := T_Share) (X_BadNumber := X_BadNumber) (C_divisor_of := C_divisor_of)
  have MK_Share := Own.mkc_of (C := C_Share) (x := "Share") (dvs := []) ok0_ShareU_initU ⟨mk_Share, a_ShareU_initU, i_ShareU_initU, kc_Share⟩ T_Share.gl b_ShareU_initU rF_ShareU_initU
  have MKd_Share := Own.mkc_of (C := C_Share) (x := "Share") ok0_ShareU_initU ⟨mk_Share, a_ShareU_initU, i_ShareU_initU, kc_Share⟩ T_Share.gl bd_ShareU_initU rD_ShareU_initU
  have C_share_of : Own.RCal l.prog w K mg base _ "share_of" _ := ⟨_, _, _, ok_share_of (P := l.prog) (w := w) (base := base) F_share_of T (T_Share := T_Share) (X_BadText := X_BadText) (C_number_end := C_number_end) (MK_Share := MK_Share) (MKd_Share := MKd_Share), PySem.W.mg_of X G a_share_of, k_share_of, b_share_of⟩
  have C_L_told_column := cal_of F_L_told_column (ok_L_told_column (P := l.prog) (w := w) (base := base) F_L_told_column T (X_BadText := X_BadText) (exm_BadText_BadText := exm_BadText_BadText) (C_share_of := C_share_of)) (PySem.W.mg_of X G a_L_told_column) b_L_told_column
  have C_L_wrong_column := cal_of F_L_wrong_column (ok_L_wrong_column (P := l.prog) (w := w) (base := base) F_L_wrong_column T ) (PySem.W.mg_of X G a_L_wrong_column) b_L_wrong_column
  have M_Share_written : Own.MCal l.prog w K mg base _ C_Share "written" _ := ⟨_, _, _, ok_Share_written (P := l.prog) (w := w) (base := base) F_Share_written T (T_Share := T_Share), ⟨a_Share_written, i_Share_written, k_Share_written⟩, b_Share_written⟩
  have C_share_parts := cal_of F_share_parts (ok_share_parts (P := l.prog) (w := w) (base := base) F_share_parts T (T_Share := T_Share)) (PySem.W.mg_of X G a_share_parts) b_share_parts
  have M_Share_compared : Own.MCal l.prog w K mg base _ C_Share "compared" _ := ⟨_, _, _, ok_Share_compared (P := l.prog) (w := w) (base := base) F_Share_compared T (T_Share := T_Share) (C_share_parts := C_share_parts), ⟨a_Share_compared, i_Share_compared, k_Share_compared⟩, b_Share_compared⟩
  have M_ShareU_eqU : Own.MCal l.prog w K mg base _ C_Share "__eq__" _ := ⟨_, _, _, ok_ShareU_eqU (P := l.prog) (w := w) (base := base) F_ShareU_eqU T (T_Share := T_Share) (M_Share_compared := M_Share_compared), ⟨a_ShareU_eqU, i_ShareU_eqU, k_ShareU_eqU⟩, b_ShareU_eqU⟩
  have C_L_texts_right := cal_of F_L_texts_right (ok_L_texts_right (P := l.prog) (w := w) (base := base) F_L_texts_right T (T_Share := T_Share) (C_L_draw := C_L_draw) (C_L_pick := C_L_pick) (C_share_of := C_share_of) (C_L_told_column := C_L_told_column) (C_L_wrong_column := C_L_wrong_column) (M_Share_written := M_Share_written) (M_ShareU_eqU := M_ShareU_eqU)) (PySem.W.mg_of X G a_L_texts_right) b_L_texts_right
  have M_ShareU_addU : Own.MCal l.prog w K mg base _ C_Share "__add__" _ := ⟨_, _, _, ok_ShareU_addU (P := l.prog) (w := w) (base := base) F_ShareU_addU T (T_Share := T_Share) (MK_Share := MK_Share) (C_share_parts := C_share_parts), ⟨a_ShareU_addU, i_ShareU_addU, k_ShareU_addU⟩, b_ShareU_addU⟩
  have M_ShareU_subU : Own.MCal l.prog w K mg base _ C_Share "__sub__" _ := ⟨_, _, _, ok_ShareU_subU (P := l.prog) (w := w) (base := base) F_ShareU_subU T (T_Share := T_Share) (MK_Share := MK_Share) (C_share_parts := C_share_parts), ⟨a_ShareU_subU, i_ShareU_subU, k_ShareU_subU⟩, b_ShareU_subU⟩
  have M_ShareU_mulU : Own.MCal l.prog w K mg base _ C_Share "__mul__" _ := ⟨_, _, _, ok_ShareU_mulU (P := l.prog) (w := w) (base := base) F_ShareU_mulU T (T_Share := T_Share) (MK_Share := MK_Share) (C_share_parts := C_share_parts), ⟨a_ShareU_mulU, i_ShareU_mulU, k_ShareU_mulU⟩, b_ShareU_mulU⟩
  have M_Share_over : Own.MCal l.prog w K mg base _ C_Share "over" _ := ⟨_, _, _, ok_Share_over (P := l.prog) (w := w) (base := base) F_Share_over T (T_Share := T_Share) (MK_Share := MK_Share) (C_share_parts := C_share_parts), ⟨a_Share_over, i_Share_over, k_Share_over⟩, b_Share_over⟩
  have M_Share_under : Own.MCal l.prog w K mg base _ C_Share "under" _ := ⟨_, _, _, ok_Share_under (P := l.prog) (w := w) (base := base) F_Share_under T (T_Share := T_Share) (M_Share_compared := M_Share_compared), ⟨a_Share_under, i_Share_under, k_Share_under⟩, b_Share_under⟩
  have M_Share_at_most : Own.MCal l.prog w K mg base _ C_Share "at_most" _ := ⟨_, _, _, ok_Share_at_most (P := l.prog) (w := w) (base := base) F_Share_at_most T (T_Share := T_Share) (M_Share_compared := M_Share_compared), ⟨a_Share_at_most, i_Share_at_most, k_Share_at_most⟩, b_Share_at_most⟩
  exact ok_law (P := l.prog) (w := w) (base := base) F_law T (T_Share := T_Share) (C_L_pen := C_L_pen) (C_L_integer := C_L_integer) (C_L_is_share := C_L_is_share) (C_L_texts_right := C_L_texts_right) (X_BadNumber := X_BadNumber) (exm_BadNumber_BadNumber := exm_BadNumber_BadNumber) (MK_Share := MK_Share) (MKd_Share := MKd_Share) (M_ShareU_addU := M_ShareU_addU) (M_ShareU_subU := M_ShareU_subU) (M_ShareU_mulU := M_ShareU_mulU) (M_Share_over := M_Share_over) (M_Share_compared := M_Share_compared) (M_Share_under := M_Share_under) (M_Share_at_most := M_Share_at_most) (M_ShareU_eqU := M_ShareU_eqU)
end My
open PySem PySem.W PyProof.Rows
set_option maxRecDepth 100000 in
set_option maxHeartbeats 0 in
theorem PySem.Challenge.cw_wordquarry_k01_shares_holds : PySem.Challenge.rw_wordquarry_k01_shares.Holds := by
  w_on; o_law; k_head; (case hw => w_witness2)
  k_fill
  refine L2.walk_of (l := PySem.Challenge.rw_wordquarry_k01_shares) (n := 63) (k := 8) (x := "_law_script") (CX := fun _ => L2.CX0) (sp := fun w => My.spLaw _) rfl (by decide) rfl ⟨rfl, by decide, by decide⟩ (fun w h Y => PySem.W.kIn_of Y) ?F (fun _ _ a ns hl _ hS => ⟨a, ns, rfl, hS, hl, fun _ => rfl⟩) (fun _ _ _ _ _ h => h)
  case F =>
    intro w mg fa h KX G hmg
    refine' My.all_mk KX G hmg ?htop ?g_Share ?g_BadText ?g_BadNumber ?a_divisor_of ?l_divisor_of ?c_divisor_of ?k_divisor_of ?a_share_parts ?l_share_parts ?c_share_parts ?k_share_parts ?a_ShareU_initU ?i_ShareU_initU ?l_ShareU_initU ?t_ShareU_initU ?c_ShareU_initU ?k_ShareU_initU ?a_Share_written ?i_Share_written ?l_Share_written ?c_Share_written ?k_Share_written ?a_ShareU_addU ?i_ShareU_addU ?l_ShareU_addU ?c_ShareU_addU ?k_ShareU_addU ?a_ShareU_subU ?i_ShareU_subU ?l_ShareU_subU ?c_ShareU_subU ?k_ShareU_subU ?a_ShareU_mulU ?i_ShareU_mulU ?l_ShareU_mulU ?c_ShareU_mulU ?k_ShareU_mulU ?a_Share_over ?i_Share_over ?l_Share_over ?c_Share_over ?k_Share_over ?a_Share_compared ?i_Share_compared ?l_Share_compared ?c_Share_compared ?k_Share_compared ?a_ShareU_eqU ?i_ShareU_eqU ?l_ShareU_eqU ?c_ShareU_eqU ?k_ShareU_eqU ?a_Share_under ?i_Share_under ?l_Share_under ?c_Share_under ?k_Share_under ?a_Share_at_most ?i_Share_at_most ?l_Share_at_most ?c_Share_at_most ?k_Share_at_most ?a_number_end ?l_number_end ?c_number_end ?k_number_end ?a_share_of ?l_share_of ?c_share_of ?k_share_of ?a_L_pen ?l_L_pen ?c_L_pen ?k_L_pen ?a_L_draw ?l_L_draw ?c_L_draw ?k_L_draw ?a_L_pick ?l_L_pick ?c_L_pick ?k_L_pick ?a_L_integer ?l_L_integer ?c_L_integer ?k_L_integer ?a_L_is_share ?l_L_is_share ?c_L_is_share ?k_L_is_share ?a_L_wrong_column ?l_L_wrong_column ?c_L_wrong_column ?k_L_wrong_column ?a_L_told_column ?l_L_told_column ?c_L_told_column ?k_L_told_column ?a_L_texts_right ?l_L_texts_right ?c_L_texts_right ?k_L_texts_right ?a_law ?l_law ?c_law ?k_law ?z_abs ?z_bool ?z_int ?z_isinstance ?z_len ?z_list ?z_range ?z_str ?z_tuple ?q_FIGURES ?kc_Share ?kc_BadText ?kc_BadNumber ?hn0 ?htk0 ?pg_Share ?hd_Share ?po_Share ?sa_Share ?mk_Share ?ha_Share ?hm_Share ?tc_Share ?na_top_Share ?na_bottom_Share ?sf_Share ?ne_Share ?nb_Share ?rr_Share_add ?i1_Share_add ?i2_Share_add ?rr_Share_sub ?i1_Share_sub ?i2_Share_sub ?rr_Share_mul ?i1_Share_mul ?i2_Share_mul ?xl_BadText ?xb_BadText ?sa_BadText ?ga_BadText ?gg_BadText ?ex_BadText ?ty_BadText ?hd_BadText ?ve_BadText ?ms_BadText ?si_BadText ?a_BadTextU_initU ?i_BadTextU_initU ?l_BadTextU_initU ?c_BadTextU_initU ?ce_BadTextU_initU ?cl_BadTextU_initU ?cv_BadTextU_initU ?cf_BadTextU_initU ?nf_BadText_line ?nf_BadText_column ?xl_BadNumber ?xb_BadNumber ?sa_BadNumber ?ga_BadNumber ?gg_BadNumber ?ex_BadNumber ?ty_BadNumber ?hd_BadNumber ?ve_BadNumber ?ms_BadNumber ?si_BadNumber ?a_BadNumberU_initU ?i_BadNumberU_initU ?l_BadNumberU_initU ?c_BadNumberU_initU ?ce_BadNumberU_initU ?cl_BadNumberU_initU ?cv_BadNumberU_initU ?cf_BadNumberU_initU ?nf_BadNumber_what ?nf_BadNumber_number ?tp0 ?z_super ?em_BadNumber_BadNumber ?em_BadText_BadText
    (case htop => first | rfl | decide +kernel)
    (case g_Share => k_is)
    (case g_BadText => k_is)
    (case g_BadNumber => k_is)
    (case a_divisor_of => k_is)
    (case l_divisor_of => k_is)
    (case c_divisor_of => k_is)
    (case k_divisor_of => k_is)
    (case a_share_parts => k_is)
    (case l_share_parts => k_is)
    (case c_share_parts => k_is)
    (case k_share_parts => k_is)
    (case a_ShareU_initU => k_is)
    (case i_ShareU_initU => k_is)
    (case l_ShareU_initU => k_is)
    (case t_ShareU_initU => k_is)
    (case c_ShareU_initU => k_is)
    (case k_ShareU_initU => k_is)
    (case a_Share_written => k_is)
    (case i_Share_written => k_is)
    (case l_Share_written => k_is)
    (case c_Share_written => k_is)
    (case k_Share_written => k_is)
    (case a_ShareU_addU => k_is)
    (case i_ShareU_addU => k_is)
    (case l_ShareU_addU => k_is)
    (case c_ShareU_addU => k_is)
    (case k_ShareU_addU => k_is)
    (case a_ShareU_subU => k_is)
    (case i_ShareU_subU => k_is)
    (case l_ShareU_subU => k_is)
    (case c_ShareU_subU => k_is)
    (case k_ShareU_subU => k_is)
    (case a_ShareU_mulU => k_is)
    (case i_ShareU_mulU => k_is)
    (case l_ShareU_mulU => k_is)
    (case c_ShareU_mulU => k_is)
    (case k_ShareU_mulU => k_is)
    (case a_Share_over => k_is)
    (case i_Share_over => k_is)
    (case l_Share_over => k_is)
    (case c_Share_over => k_is)
    (case k_Share_over => k_is)
    (case a_Share_compared => k_is)
    (case i_Share_compared => k_is)
    (case l_Share_compared => k_is)
    (case c_Share_compared => k_is)
    (case k_Share_compared => k_is)
    (case a_ShareU_eqU => k_is)
    (case i_ShareU_eqU => k_is)
    (case l_ShareU_eqU => k_is)
    (case c_ShareU_eqU => k_is)
    (case k_ShareU_eqU => k_is)
    (case a_Share_under => k_is)
    (case i_Share_under => k_is)
    (case l_Share_under => k_is)
    (case c_Share_under => k_is)
    (case k_Share_under => k_is)
    (case a_Share_at_most => k_is)
    (case i_Share_at_most => k_is)
    (case l_Share_at_most => k_is)
    (case c_Share_at_most => k_is)
    (case k_Share_at_most => k_is)
    (case a_number_end => k_is)
    (case l_number_end => k_is)
    (case c_number_end => k_is)
    (case k_number_end => k_is)
    (case a_share_of => k_is)
    (case l_share_of => k_is)
    (case c_share_of => k_is)
    (case k_share_of => k_is)
    (case a_L_pen => k_is)
    (case l_L_pen => k_is)
    (case c_L_pen => k_is)
    (case k_L_pen => k_is)
    (case a_L_draw => k_is)
    (case l_L_draw => k_is)
    (case c_L_draw => k_is)
    (case k_L_draw => k_is)
    (case a_L_pick => k_is)
    (case l_L_pick => k_is)
    (case c_L_pick => k_is)
    (case k_L_pick => k_is)
    (case a_L_integer => k_is)
    (case l_L_integer => k_is)
    (case c_L_integer => k_is)
    (case k_L_integer => k_is)
    (case a_L_is_share => k_is)
    (case l_L_is_share => k_is)
    (case c_L_is_share => k_is)
    (case k_L_is_share => k_is)
    (case a_L_wrong_column => k_is)
    (case l_L_wrong_column => k_is)
    (case c_L_wrong_column => k_is)
    (case k_L_wrong_column => k_is)
    (case a_L_told_column => k_is)
    (case l_L_told_column => k_is)
    (case c_L_told_column => k_is)
    (case k_L_told_column => k_is)
    (case a_L_texts_right => k_is)
    (case l_L_texts_right => k_is)
    (case c_L_texts_right => k_is)
    (case k_L_texts_right => k_is)
    (case a_law => k_is)
    (case l_law => k_is)
    (case c_law => k_is)
    (case k_law => k_is)
    (case z_abs => k_is)
    (case z_bool => k_is)
    (case z_int => k_is)
    (case z_isinstance => k_is)
    (case z_len => k_is)
    (case z_list => k_is)
    (case z_range => k_is)
    (case z_str => k_is)
    (case z_tuple => k_is)
    (case q_FIGURES => k_is)
    (case kc_Share => k_is)
    (case kc_BadText => k_is)
    (case kc_BadNumber => k_is)
    (case hn0 => k_is)
    (case htk0 => k_is)
    (case pg_Share => k_is)
    (case hd_Share => k_is)
    (case po_Share => k_is)
    (case sa_Share => k_is)
    (case mk_Share => k_is)
    (case ha_Share => k_is)
    (case hm_Share => k_is)
    (case tc_Share => k_is)
    (case na_top_Share => k_is)
    (case na_bottom_Share => k_is)
    (case sf_Share => k_is)
    (case ne_Share => k_is)
    (case nb_Share => k_is)
    (case rr_Share_add => k_is)
    (case i1_Share_add => k_is)
    (case i2_Share_add => k_is)
    (case rr_Share_sub => k_is)
    (case i1_Share_sub => k_is)
    (case i2_Share_sub => k_is)
    (case rr_Share_mul => k_is)
    (case i1_Share_mul => k_is)
    (case i2_Share_mul => k_is)
    (case xl_BadText => k_is)
    (case xb_BadText => first | rfl | decide +kernel | k_is)
    (case sa_BadText => k_is)
    (case ga_BadText => k_is)
    (case gg_BadText => k_is)
    (case ex_BadText => k_is)
    (case ty_BadText => k_is)
    (case hd_BadText => k_is)
    (case ve_BadText => k_is)
    (case ms_BadText => k_is)
    (case si_BadText => ks_is)
    (case a_BadTextU_initU => k_is)
    (case i_BadTextU_initU => k_is)
    (case l_BadTextU_initU => k_is)
    (case c_BadTextU_initU => k_is)
    (case ce_BadTextU_initU => k_is)
    (case cl_BadTextU_initU => k_is)
    (case cv_BadTextU_initU => first | rfl | decide +kernel | k_is)
    (case cf_BadTextU_initU => first | rfl | decide +kernel | k_is)
    (case nf_BadText_line => k_is)
    (case nf_BadText_column => k_is)
    (case xl_BadNumber => k_is)
    (case xb_BadNumber => first | rfl | decide +kernel | k_is)
    (case sa_BadNumber => k_is)
    (case ga_BadNumber => k_is)
    (case gg_BadNumber => k_is)
    (case ex_BadNumber => k_is)
    (case ty_BadNumber => k_is)
    (case hd_BadNumber => k_is)
    (case ve_BadNumber => k_is)
    (case ms_BadNumber => k_is)
    (case si_BadNumber => ks_is)
    (case a_BadNumberU_initU => k_is)
    (case i_BadNumberU_initU => k_is)
    (case l_BadNumberU_initU => k_is)
    (case c_BadNumberU_initU => k_is)
    (case ce_BadNumberU_initU => k_is)
    (case cl_BadNumberU_initU => k_is)
    (case cv_BadNumberU_initU => first | rfl | decide +kernel | k_is)
    (case cf_BadNumberU_initU => first | rfl | decide +kernel | k_is)
    (case nf_BadNumber_what => k_is)
    (case nf_BadNumber_number => k_is)
    (case tp0 => k_is)
    (case z_super => k_is)
    (case em_BadNumber_BadNumber => k_is)
    (case em_BadText_BadText => k_is)

import PyProof.Rows.All
import Wide.All
import OpenK.AllK
import Wide.FinOn
import KE.KStateDown
import Lean
import HandS.Base
import HandS.Call
import HandS.List
import HandS.Comp
import HandS.Ends
import HandS.EndBits
import HandS.Dict
import HandS.Iter
import HandS.Text
import HandS.More
import HandS.Words
import HandS.WordsList
import HandS.WordsDict
import HandS.WordsExc
import HandS.Exc
import HandS.ExcOwn
import HandS.TryOnly
import HandS.Defaults
import HandS.Flow
import HandS.Style
import HandS.Wide
import HandS.IsInst
import HandS.SortInts
import HandS.RaiseMore
import HandS.Walk
import HandS.Flt
import HandS.Zip
import HandS.Head0
import HandS.Head1
import HandS.Head2
import HandS.HeadEnd
import HandS.HeadHook1
import HandS.HeadHook2
import HandS.Set
import HandS.SetFor
import HandS.Star
import HandS.HeadHook3
import HandS.Property
import HandS.Deep
import HandS.DeepEq
import PySem.Challenge.RW_backslots_k08_slots_gains_and_prices
set_option Elab.async false
set_option linter.all false
set_option maxRecDepth 100000
set_option maxHeartbeats 4000000
namespace Bs
open PySem PySem.Spec L2
open PyProof.Rows hiding St
/-! ### defs by name -/
/-- the def d of the text stands in K -/
def Df (K : PySem.W.Frag) (d : He.DefD) : Prop := ∃ fd, FunD K d.name d.qual d.params d.body d.scope (d.dvs K) (d.kws K) (He.fAd K d.at_) fd
/-- the def named x keeps the promise sp -/
def Ok (P : Program) (w : World) (K : PySem.W.Frag) (mg : Str → Option Value) (base : Heap) (CX : CXT) (k : Nat) (x : Str) (ps : List Str) (sp : Sp) : Prop :=
  mg x = some (.ref (He.ga K x)) ∧ PySem.W.keepIn K (.ref (He.ga K x)) = true ∧ ∃ fd, (∃ oc od osl, K.lookup (He.ga K x) = some ⟨oc, od, .func fd, osl⟩) ∧ Binds K fd ps [] ∧ FnOk P w K mg base CX k (He.ga K x) fd ps sp
section
variable {P : Program} {w : World} {K : PySem.W.Frag} {mg : Str → Option Value} {base : Heap}
theorem mk_ok {CX : CXT} {k : Nat} {x : Str} {st : Stmt} {N ps : List Str} {sp : Sp} (F : Df K ⟨(x, none), x, x, defArgs st, defBody st, defScope st, [], []⟩) (g : mg x = some (.ref (He.ga K x)))
    (hb : ∀ (kV doc pm : Value) (an : Option Addr) (cdv ct : Value) (us : List Value), us.length = ps.length → bindArgs (PySem.W.fnOf x x (defArgs st) (defBody st) (defScope st) .none kV doc pm an cdv ct) ⟨us, []⟩ = pure (ps.zip us))
    (S : FnScope N ps (defScope st)) (len : ∀ vs H Q E, sp vs H Q E → vs.length = ps.length)
    (hbody : ∀ (cdv : Value) (A : Around) (outer : List Env) (s : Shared) (H : Hp) (vs : List V) (Q : VK) (E : XK), Room k (A.deeper (envOfC x (defScope st) s.heap.objs.size (He.ga K x) cdv)) → sp vs H Q E →
      ∃ t, PSs (cxOf CX P w K mg base N x (defScope st) (He.ga K x) cdv A outer s H E) (defBody st) t ∧ t { nx := fun _ H' => Q .non H', rt := Q } (start N vs) H) : Ok P w K mg base CX (k + 1) x ps sp := by
  obtain ⟨fd, F⟩ := F
  have l : ∃ oc od osl, K.lookup (He.ga K x) = some ⟨oc, od, .func fd, osl⟩ := by
    obtain ⟨oc, od, _, _, _, _, _, _, _, osl, _, lk, _⟩ := F.ex
    exact ⟨oc, od, osl, lk⟩
  exact ⟨g, F.kp, fd, l, F.bindsN hb, F.ok S len hbody⟩
theorem fun_same {CX : CXT} {k : Nat} {x : Str} {ps : List Str} {sp : Sp} {d : He.DefD} {fd : FuncData} (F : FunD K d.name d.qual d.params d.body d.scope (d.dvs K) (d.kws K) (He.fAd K d.at_) fd) (e : He.fAd K d.at_ = He.ga K x) (G : Ok P w K mg base CX k x ps sp) :
    FnOk P w K mg base CX k (He.ga K x) fd ps sp := by
  obtain ⟨_, _, fd2, ⟨oc, od, osl, l⟩, _, G⟩ := G
  obtain ⟨oc2, od2, _, _, _, _, _, _, _, osl2, _, lk, _⟩ := F.ex
  rw [e, l] at lk
  have e2 := Option.some.inj lk
  injection e2 with _ _ e3 _
  injection e3 with e4
  rw [← e4]
  exact G
end
section
variable {X : Cx} {CX : CXT} {k : Nat} {ps : List Str} {sp : Sp} {E : XK} {x : Str} {p pos : Pos} {e : Expr} {es : List Expr} {t : TA}
/-- f(..) -/
theorem pe_callO (F : Ok X.prog X.w X.K X.mg X.base CX k x ps sp) (hr : Room k X.A) (hg : Gl X x) (hx : Passes CX X E)
    (ha : PA X (e :: es) t) (hdb : (x == ("__debug__" : Str)) = false := by decide) (he : starEach (e :: es) X.env = (false, eval e X.env) :: starEach es X.env := by rfl) (hpl : (backTo pos (starEach es X.env)).any (·.1) = false := by rfl) :
    PE X (.Call (.Name x p) (e :: es) [] pos) (tCall sp [] E t) := by
  obtain ⟨g, kp, fd, _, b, G⟩ := F
  exact pe_call G hr hg g kp b .nil hx ha hdb he hpl
theorem pe_callO0 (F : Ok X.prog X.w X.K X.mg X.base CX k x ps sp) (hr : Room k X.A) (hg : Gl X x) (hx : Passes CX X E) (hdb : (x == ("__debug__" : Str)) = false := by decide) : PE X (.Call (.Name x p) [] [] pos) (tCall sp [] E tNil) := by
  obtain ⟨g, kp, fd, _, b, G⟩ := F
  exact pe_call0 G hr hg g kp b .nil hx hdb
end
/-! ### operators by value -/
abbrev oAdd : R2 := rI0 fun i j => .int (i + j)
abbrev oSub : R2 := rI0 fun i j => .int (i - j)
abbrev oMul : R2 := rI CMul fun i j => .int (i * j)
abbrev oMulW : R2 := rI CMulW fun i j => .int (i * j)
abbrev oDivN : R2 := rI CDivN fun i j => .int (i.fdiv j)
abbrev oDivW : R2 := rI CDivW fun i j => .int (i / j)
abbrev oModN : R2 := rI (fun _ j => j ≠ 0) fun i j => .int (i.fmod j)
abbrev oPow : R2 := rI CPow fun i j => .int (i ^ j.toNat)
abbrev oLt : R2 := rI0 fun i j => .bl (decide (i < j))
abbrev oLe : R2 := rI0 fun i j => .bl (decide (i ≤ j))
abbrev oGt : R2 := rI0 fun i j => .bl (decide (j < i))
abbrev oGe : R2 := rI0 fun i j => .bl (decide (j ≤ i))
abbrev uNeg : V → Hp → VK → Prop := rU fun i => .int (-i)
abbrev oIsN : R2 := fun x y H Q => y = .non ∧ Q (.bl (decide (x = .non))) H
abbrev oNotN : R2 := fun x y H Q => y = .non ∧ Q (.bl (!decide (x = .non))) H
/-! ### reading, a step at a time -/
section
variable {D : Ends} {σ : St} {H : Hp} {Q : VK} {E : XK} {K : PySem.W.Frag} {i j : Int} {n m : Nat} {x y v : V} {ta tb te tc : TE} {t u : TS} {c d : TT} {r : R2}
theorem r_seq (h : t { D with nx := u D } σ H) : tSeq t u D σ H := h
theorem r_next (h : D.nx σ H) : tNext D σ H := h
theorem r_asg (h : te σ H fun x H1 => D.nx (σ.set n (some x)) H1) : tAsg te (gName n) D σ H := h
theorem r_asgG {g : TG} (h : te σ H fun x H1 => g x σ H1 D.nx) : tAsg te g D σ H := h
theorem r_ret (h : te σ H D.rt) : tRet te D σ H := h
theorem r_retN (h : D.rt .non H) : tRetN D σ H := h
theorem r_ifS (h : c σ H fun b H1 => if b = true then t D σ H1 else u D σ H1) : tIfS c t u D σ H := h
theorem r_drop (h : te σ H fun _ H1 => D.nx σ H1) : tDrop te D σ H := h
theorem r_brk (h : D.bk σ H) : tBreak D σ H := h
theorem r_cont (h : D.ct σ H) : tCont D σ H := h
theorem r_par (h : ta σ H fun v H1 => tb σ H1 fun w H2 => D.nx ((σ.set n (some v)).set m (some w)) H2) : tPar n m (tCons ta (tCons tb tNil)) D σ H := by
  show ta σ H _
  exact (show ta σ H (fun x H1 => tb σ H1 fun y H2 => ∃ v w, [x, y] = [v, w] ∧ D.nx ((σ.set n (some v)).set m (some w)) H2) from by
    have e : (fun (x : V) (H1 : Hp) => tb σ H1 fun y H2 => ∃ v w, [x, y] = [v, w] ∧ D.nx ((σ.set n (some v)).set m (some w)) H2) = fun v H1 => tb σ H1 fun w H2 => D.nx ((σ.set n (some v)).set m (some w)) H2 := by
      funext x H1
      congr 1
      funext y H2
      apply propext
      constructor
      · rintro ⟨v, w, e, h⟩
        cases e
        exact h
      · intro h
        exact ⟨x, y, rfl, h⟩
    rw [e]
    exact h)
theorem r_par3 {o : Nat} {h : V → V → V → Hp → Prop} (hh : ∀ x y z H1, h x y z H1 → D.nx (((σ.set n (some x)).set m (some y)).set o (some z)) H1) (mo : ta σ H fun x H1 => tb σ H1 fun y H2 => tc σ H2 fun z H3 => ∃ u v w, [x, y, z] = [u, v, w] ∧ D.nx (((σ.set n (some u)).set m (some v)).set o (some w)) H3) :
    tPar3 n m o (tCons ta (tCons tb (tCons tc tNil))) D σ H := mo
theorem r_var (h : σ[n]? = some (some v)) (q : Q v H) : tVar n σ H Q := ⟨v, h, q⟩
theorem r_c (q : Q v H) : tC v σ H Q := q
theorem r_op (h : ta σ H fun x H1 => tb σ H1 fun y H2 => r x y H2 Q) : tOp r ta tb σ H Q := h
theorem r_un {f : V → Hp → VK → Prop} (h : ta σ H fun x H1 => f x H1 Q) : tUn f ta σ H Q := h
theorem r_I0 {g : Int → Int → V} (h : Q (g i j) H) : rI0 g (.int i) (.int j) H Q := ⟨i, j, rfl, rfl, h⟩
theorem r_I {C : Int → Int → Prop} {g : Int → Int → V} (hc : C i j) (h : Q (g i j) H) : rI C g (.int i) (.int j) H Q := ⟨i, j, rfl, rfl, hc, h⟩
theorem r_U {g : Int → V} (h : Q (g i) H) : rU g (.int i) H Q := ⟨i, rfl, h⟩
theorem r_eq (hs : scal x y = true) (h : Q (.bl (decide (x = y))) H) : rEq x y H Q := ⟨hs, h⟩
theorem r_ne (hs : scal x y = true) (h : Q (.bl (!decide (x = y))) H) : rNe x y H Q := ⟨hs, h⟩
theorem v_int : decide (V.int i = V.int j) = decide (i = j) := by
  by_cases e : i = j
  · subst e; simp
  · have h : ¬ (V.int i) = V.int j := fun q => e (V.int.inj q)
    rw [decide_eq_false h, decide_eq_false e]
theorem r_eqI (h : Q (.bl (decide (i = j))) H) : rEq (.int i) (.int j) H Q := ⟨rfl, by rw [v_int]; exact h⟩
theorem r_neI (h : Q (.bl (!decide (i = j))) H) : rNe (.int i) (.int j) H Q := ⟨rfl, by rw [v_int]; exact h⟩
theorem v_bl {a b : Bool} : decide (V.bl a = V.bl b) = (a == b) := by cases a <;> cases b <;> decide
theorem r_eqB {a b : Bool} (h : Q (.bl (a == b)) H) : rEq (.bl a) (.bl b) H Q := ⟨rfl, by rw [v_bl]; exact h⟩
theorem r_neB {a b : Bool} (h : Q (.bl (!(a == b))) H) : rNe (.bl a) (.bl b) H Q := ⟨rfl, by rw [v_bl]; exact h⟩
theorem r_isN (h : Q (.bl (decide (x = .non))) H) : oIsN x .non H Q := ⟨rfl, h⟩
theorem r_notN (h : Q (.bl (!decide (x = .non))) H) : oNotN x .non H Q := ⟨rfl, h⟩
theorem r_chain {r' : R2} (h : ta σ H fun x H1 => tb σ H1 fun y H2 => r x y H2 fun z H3 => ∃ k, z = .bl k ∧ (if k = true then tc σ H3 fun w' H4 => r' y w' H4 Q else Q (.bl false) H3)) : tChain r r' ta tb tc σ H Q := h
theorem r_test {Q : Bool → Hp → Prop} (h : te σ H fun x H' => ∃ k, x = .bl k ∧ Q k H') : tTest te σ H Q := h
theorem r_B {Q : Bool → Hp → Prop} (h : te σ H fun x H' => ∃ k, x = .bl k ∧ Q k H') : tB te σ H Q := h
theorem r_bl {b : Bool} {Q : Bool → Prop} (h : Q b) : ∃ k, V.bl b = .bl k ∧ Q k := ⟨b, rfl, h⟩
theorem r_and {Q : Bool → Hp → Prop} (h : c σ H fun b H1 => if b = true then d σ H1 Q else Q false H1) : tAnd c d σ H Q := h
theorem r_or {Q : Bool → Hp → Prop} (h : c σ H fun b H1 => if b = true then Q true H1 else d σ H1 Q) : tOr c d σ H Q := h
theorem r_not {Q : Bool → Hp → Prop} (h : c σ H fun b H1 => Q (!b) H1) : tNot c σ H Q := h
theorem r_andV (h : ta σ H fun x H1 => ∃ c, x = .bl c ∧ if c = true then tb σ H1 Q else Q (.bl false) H1) : tAndV ta tb σ H Q := h
theorem r_orV (h : ta σ H fun x H1 => ∃ c, x = .bl c ∧ if c = true then Q (.bl true) H1 else tb σ H1 Q) : tOrV ta tb σ H Q := h
theorem r_notV (h : ta σ H fun x H1 => ∃ c, x = .bl c ∧ Q (.bl (!c)) H1) : tNotV ta σ H Q := h
theorem r_ifE {cT : TT} (h : cT σ H fun c H1 => if c = true then ta σ H1 Q else tb σ H1 Q) : tIf cT ta tb σ H Q := h
theorem r_cb {f : List V → Hp → VK → Prop} {tA : TA} (h : tA σ H fun vs H1 => f vs H1 Q) : tCB f tA σ H Q := h
theorem r_nil {Q : List V → Hp → Prop} (h : Q [] H) : tNil σ H Q := h
theorem r_cons {tA : TA} {Q : List V → Hp → Prop} (h : te σ H fun x H1 => tA σ H1 fun xs H2 => Q (x :: xs) H2) : tCons te tA σ H Q := h
theorem r_call {sp : Sp} {tA : TA} (h : tA σ H fun vs H1 => sp vs H1 Q E) : tCall sp [] E tA σ H Q := by
  show tA σ H fun vs H1 => sp (vs ++ []) H1 Q E
  have e : (fun vs H1 => sp (vs ++ []) H1 Q E) = fun vs H1 => sp vs H1 Q E := by
    funext vs H1
    rw [List.append_nil]
  rw [e]
  exact h
theorem r_tup {tA : TA} (h : tA σ H fun xs H1 => xs.length ≤ sizeLine ∧ ∀ p, H1 p = none → Q (.ref p) (upd H1 p (.tup xs))) : tTup tA σ H Q := h
theorem r_lst {tA : TA} (h : tA σ H fun xs H1 => xs.length ≤ sizeLine ∧ ∀ p, H1 p = none → Q (.ref p) (upd H1 p (.lst xs))) : tLst tA σ H Q := h
theorem sz_of {n : Nat} (h : n ≤ 100000) : n ≤ sizeLine := Nat.le_trans h (by decide)
theorem sz_lt {n : Nat} (h : n < 100000) : n < sizeLine := Nat.lt_of_lt_of_le h (by decide)
theorem r_new {n : Nat} {P : Addr → Prop} (hn : n ≤ 100000) (h : ∀ p, P p) : n ≤ sizeLine ∧ ∀ p, P p := ⟨sz_of hn, h⟩
theorem r_rng1 {ta : TA} {R : It → Hp → Prop} (h : ta σ H fun vs H1 => ∃ j : Int, vs = [.int j] ∧ -(2 ^ 62) ≤ j ∧ j < 2 ^ 62 ∧ R (Itr 0 j.toNat) H1) : iRng1 ta σ H R := h
theorem r_rng2 {ta : TA} {R : It → Hp → Prop} (h : ta σ H fun vs H1 => ∃ i j : Int, vs = [.int i, .int j] ∧ (-(2 ^ 62) ≤ i ∧ i < 2 ^ 62 ∧ -(2 ^ 62) ≤ j ∧ j < 2 ^ 62) ∧ R (Itr i (j - i).toNat) H1) : iRng2 ta σ H R := h
theorem r_r1 {R : Int → Prop} (h1 : -(2 ^ 62) ≤ i) (h2 : i < 2 ^ 62) (h : R i) : ∃ j : Int, [V.int i] = [.int j] ∧ -(2 ^ 62) ≤ j ∧ j < 2 ^ 62 ∧ R j := ⟨i, rfl, h1, h2, h⟩
theorem r_r2 {R : Int → Int → Prop} (h1 : -(2 ^ 62) ≤ i ∧ i < 2 ^ 62 ∧ -(2 ^ 62) ≤ j ∧ j < 2 ^ 62) (h : R i j) : ∃ i' j' : Int, [V.int i, V.int j] = [.int i', .int j'] ∧ (-(2 ^ 62) ≤ i' ∧ i' < 2 ^ 62 ∧ -(2 ^ 62) ≤ j' ∧ j' < 2 ^ 62) ∧ R i' j' := ⟨i, j, rfl, h1, h⟩
theorem r_for {wi : TI} {g : TG} (h : wi σ H fun J H1 => ∃ W : Nat → Nat → St → Hp → Prop, (∃ m, W 0 m σ H1) ∧ ∀ i m σ H, W i m σ H →
  (J.stop i H ∧ D.nx σ H) ∨ (J.go i H ∧ ∃ N : St → Hp → Prop, (∀ σ' H', N σ' H' → ∃ m', m' < m ∧ W (i + 1) m' σ' H') ∧ ∀ x H', J.yld i H x H' → g x σ H' fun σ2 H2 => t { D with nx := N, ct := N, bk := D.nx } σ2 H2)) : tFor wi g t D σ H := h
/-- a test's two ways -/
theorem r_ite {p : Prop} [Decidable p] {A B : Prop} (h1 : p → A) (h2 : ¬ p → B) : if decide p = true then A else B := by
  by_cases h : p
  · rw [decide_eq_true h, if_pos rfl]
    exact h1 h
  · rw [decide_eq_false h, if_neg Bool.false_ne_true]
    exact h2 h
theorem r_iteN {p : Prop} [Decidable p] {A B : Prop} (h1 : ¬ p → A) (h2 : p → B) : if (!decide p) = true then A else B := by
  by_cases h : p
  · rw [decide_eq_true h, if_neg (by decide)]
    exact h2 h
  · rw [decide_eq_false h, if_pos (by decide)]
    exact h1 h
theorem r_iteB {b : Bool} {A B : Prop} (h1 : b = true → A) (h2 : b = false → B) : if b = true then A else B := by
  cases b with
  | true => rw [if_pos rfl]; exact h1 rfl
  | false => rw [if_neg Bool.false_ne_true]; exact h2 rfl
theorem r_iteT {A B : Prop} (h : A) : if true = true then A else B := by rw [if_pos rfl]; exact h
theorem r_iteF {A B : Prop} (h : B) : if false = true then A else B := by rw [if_neg Bool.false_ne_true]; exact h
theorem r_iteNT {A B : Prop} (h : B) : if (!true) = true then A else B := by rw [if_neg (by decide)]; exact h
theorem r_iteNF {A B : Prop} (h : A) : if (!false) = true then A else B := by rw [if_pos (by decide)]; exact h
/-- a test that is known -/
theorem r_yes {p : Prop} [Decidable p] {A B : Prop} (hp : p) (h : A) : if decide p = true then A else B := by rw [decide_eq_true hp, if_pos rfl]; exact h
theorem r_no {p : Prop} [Decidable p] {A B : Prop} (hp : ¬ p) (h : B) : if decide p = true then A else B := by rw [decide_eq_false hp, if_neg Bool.false_ne_true]; exact h
end
end Bs

namespace Bs
open PySem PySem.Spec L2
open PyProof.Rows hiding St
/-! ### more operators, built-ins -/
abbrev oMulA : R2 := rI IntMulOk fun i j => .int (i * j)
def CDivP (i j : Int) : Prop := 0 < j ∧ j.natAbs.log2 < 9000
abbrev oDivP : R2 := rI CDivP fun i j => .int (i / j)
def CModP (_ j : Int) : Prop := 0 < j
abbrev oModP : R2 := rI CModP fun i j => .int (i % j)
def CPowA (i j : Int) : Prop := 0 ≤ j ∧ (Builtin.Int.intBits i : Int) * j ≤ 2 ^ 27
abbrev oPowA : R2 := rI CPowA fun i j => .int (i ^ j.toNat)
abbrev oMax2 : List V → Hp → VK → Prop := fun xs H Q => ∃ i j, xs = [.int i, .int j] ∧ Q (.int (if j > i then j else i)) H
abbrev oMin2 : List V → Hp → VK → Prop := fun xs H Q => ∃ i j, xs = [.int i, .int j] ∧ Q (.int (if j < i then j else i)) H
def oMax3 : List V → Hp → VK → Prop := fun xs H Q => ∃ i j k : Int, xs = [.int i, .int j, .int k] ∧ Q (.int (max (max i j) k)) H
def oMin3 : List V → Hp → VK → Prop := fun xs H Q => ∃ i j k : Int, xs = [.int i, .int j, .int k] ∧ Q (.int (min (min i j) k)) H
abbrev oInt : List V → Hp → VK → Prop := fun xs H Q => (∃ i, xs = [.int i] ∧ Q (.int i) H) ∨ ∃ k, xs = [.bl k] ∧ Q (.int (if k then 1 else 0)) H
abbrev oLen (K : PySem.W.Frag) : List V → Hp → VK → Prop := fun xs H Q => ∃ p ys, xs = [.ref p] ∧ (SqL K H p ys ∨ SqT K H p ys) ∧ Q (.int ys.length) H
/-- repr of an int, None, True, False -/
def repV : V → Option Str
  | .int i => some (toString i)
  | .non => some "None"
  | .bl true => some "True"
  | .bl false => some "False"
  | _ => none
def oRepr : List V → Hp → VK → Prop := fun xs H Q => ∃ x z, xs = [x] ∧ repV x = some z ∧ (∀ i, x = .int i → i.natAbs.log2 < 1920) ∧ Q (.str z) H
section
variable {X : Cx} {x : Str} {pos : Pos}
theorem pe_globI {i : Int} (hm : ∃ t, X.mg x = some (.int i t)) (hg : Gl X x := by rfl) (hdb : (x == ("__debug__" : Str)) = false := by decide) : PE X (.Name x pos) (tC (.int i)) := by
  obtain ⟨t, h⟩ := hm
  exact pe_glob hg h ⟨_, rfl⟩ hdb
theorem op_mulA : OpR X (binaryOp .Mult) oMulA := opI fun _ _ _ _ _ _ _ hc q => mul_int q hc
theorem op_divP : OpR X (binaryOp .FloorDiv) oDivP := opI fun i j _ _ _ _ _ hc q => by
  have h1 : (0 : Int) < j := hc.1
  exact floordiv_int (by omega) (by rw [Int.fdiv_eq_ediv_of_nonneg i (by omega)]; exact q) (.inl (PyProof.noPylong_of_log2 hc.2))
theorem op_modP : OpR X (binaryOp .Mod) oModP := by
  intro pins s σ H x y u v Q I r1 r2 h
  obtain ⟨i, j, e1, e2, hc, q⟩ := h
  have hj : (0 : Int) < j := hc
  refine op_modN pins s σ H x y u v Q I r1 r2 ⟨i, j, e1, e2, by omega, ?_⟩
  show Q (.int (i.fmod j)) H
  rw [Int.fmod_eq_emod_of_nonneg i (by omega)]
  exact q
theorem op_powA : OpR X (binaryOp .Pow) oPowA := opI fun i j _ _ _ _ _ hc q => pow_int hc.1 hc.2 q
theorem call_reprA : CallR X (.builtin "repr") oRepr := by
  intro pins s σ H xs us Q I r h
  obtain ⟨x, z, rfl, hz, hi, q⟩ := h
  obtain ⟨u, rfl, rx⟩ := vals1 r
  cases x with
  | int i =>
    obtain ⟨t, rfl⟩ := rx
    have e : z = toString i := (Option.some.inj hz).symm
    subst e
    exact PySem.P.repr_of_int (hi i rfl) ⟨.str _, H, I.tok _, ⟨_, rfl⟩, q⟩
  | non =>
    cases (show u = Value.none from rx)
    have e : z = "None" := (Option.some.inj hz).symm
    subst e
    exact PySem.P.repr_of_none ⟨.str _, H, I.tok _, ⟨_, rfl⟩, q⟩
  | bl b =>
    cases (show u = Value.bool b from rx)
    cases b with
    | true =>
      have e : z = "True" := (Option.some.inj hz).symm
      subst e
      exact PySem.P.repr_of_bool ⟨.str _, H, I.tok _, ⟨_, rfl⟩, q⟩
    | false =>
      have e : z = "False" := (Option.some.inj hz).symm
      subst e
      exact PySem.P.repr_of_bool ⟨.str _, H, I.tok _, ⟨_, rfl⟩, q⟩
  | _ => cases hz
theorem call_max3 (hc : X.calm = true) : CallR X (.builtin "max") oMax3 := by
  intro pins s σ H xs us Q I r h
  obtain ⟨i, j, k, e, q⟩ := h
  refine call_max3Nu hc pins s σ H xs us Q I r ⟨.int i, .int j, .int k, _, e, ?_, q⟩
  show ((nuLt (.int i) (.int j)).map fun c => if c = true then V.int j else .int i).bind (fun m => nuMax2 m (.int k)) = _
  show nuMax2 (if decide (i < j) = true then V.int j else .int i) (.int k) = _
  by_cases h1 : i < j
  · rw [decide_eq_true h1, if_pos rfl]
    show some (if decide (j < k) = true then V.int k else .int j) = _
    by_cases h2 : j < k
    · rw [decide_eq_true h2, if_pos rfl, show max (max i j) k = k by omega]
    · rw [decide_eq_false h2, if_neg Bool.false_ne_true, show max (max i j) k = j by omega]
  · rw [decide_eq_false h1, if_neg Bool.false_ne_true]
    show some (if decide (i < k) = true then V.int k else .int i) = _
    by_cases h2 : i < k
    · rw [decide_eq_true h2, if_pos rfl, show max (max i j) k = k by omega]
    · rw [decide_eq_false h2, if_neg Bool.false_ne_true, show max (max i j) k = i by omega]
theorem call_min3 (hc : X.calm = true) : CallR X (.builtin "min") oMin3 := by
  intro pins s σ H xs us Q I r h
  obtain ⟨i, j, k, e, q⟩ := h
  refine call_min3Nu hc pins s σ H xs us Q I r ⟨.int i, .int j, .int k, _, e, ?_, q⟩
  show ((nuLt (.int j) (.int i)).map fun c => if c = true then V.int j else .int i).bind (fun m => nuMin2 m (.int k)) = _
  show nuMin2 (if decide (j < i) = true then V.int j else .int i) (.int k) = _
  by_cases h1 : j < i
  · rw [decide_eq_true h1, if_pos rfl]
    show some (if decide (k < j) = true then V.int k else .int j) = _
    by_cases h2 : k < j
    · rw [decide_eq_true h2, if_pos rfl, show min (min i j) k = k by omega]
    · rw [decide_eq_false h2, if_neg Bool.false_ne_true, show min (min i j) k = j by omega]
  · rw [decide_eq_false h1, if_neg Bool.false_ne_true]
    show some (if decide (k < i) = true then V.int k else .int i) = _
    by_cases h2 : k < i
    · rw [decide_eq_true h2, if_pos rfl, show min (min i j) k = k by omega]
    · rw [decide_eq_false h2, if_neg Bool.false_ne_true, show min (min i j) k = i by omega]
end
section
variable {X : Cx} {a b c d : Expr} {ta tb tc td : TE} {pos : Pos}
/-- a op1 b op2 c op3 d -/
def tChain3 (r1 r2 r3 : R2) (ta tb tc td : TE) : TE := fun σ H Q => ta σ H fun x H1 => tb σ H1 fun y H2 => r1 x y H2 fun z H3 => ∃ k, z = .bl k ∧
  (if k = true then tc σ H3 fun u H4 => r2 y u H4 fun z' H5 => ∃ k', z' = .bl k' ∧ (if k' = true then td σ H5 fun w' H6 => r3 u w' H6 Q else Q (.bl false) H5) else Q (.bl false) H3)
theorem pe_chain3 {op1 op2 op3 : CmpOp} {q1 q2 q3 : R2} (h1 : OpR X (compareOp op1) q1) (h2 : OpR X (compareOp op2) q2) (h3 : OpR X (compareOp op3) q3) (ha : PE X a ta) (hb : PE X b tb) (hc : PE X c tc) (hd : PE X d td)
    (hm : lastMarks [op1, op2, op3] [b, c, d] = false := by with_unfolding_all rfl) : PE X (.Compare a [op1, op2, op3] [b, c, d] pos) (tChain3 q1 q2 q3 ta tb tc td) := by
  refine ⟨fun pins s σ H Q I h => ?_⟩
  refine Compare_chain (thn (ha.run pins s σ H _ I h) fun v s1 ⟨x, H1, I1, r1, q1⟩ => chain_link (thn (hb.run pins s1 σ H1 _ I1 q1) fun u s2 ⟨y, H2, I2, r2, q2⟩ =>
    thn (h1 pins s2 σ H2 x y v u _ I2 r1 r2 q2) fun d s3 ⟨z, H3, I3, r3, k, e, q3⟩ => ?_)) hm
  subst e
  cases r3
  refine wpAny_truthy_bool ?_
  cases k with
  | false => exact ite_ff ⟨.bl false, H3, I3, rfl, q3⟩
  | true =>
    refine ite_tt (chain_link (thn (hc.run pins s3 σ H3 _ I3 q3) fun u2 s4 ⟨y2, H4, I4, r4, q4⟩ => thn (h2 pins s4 σ H4 y y2 u u2 _ I4 r2 r4 q4) fun d2 s5 ⟨z2, H5, I5, r5, k2, e2, q5⟩ => ?_))
    subst e2
    cases r5
    refine wpAny_truthy_bool ?_
    cases k2 with
    | false => exact ite_ff ⟨.bl false, H5, I5, rfl, q5⟩
    | true => exact ite_tt (chain_last (thn (hd.run pins s5 σ H5 _ I5 q5) fun w' s6 ⟨z', H6, I6, r6, q6⟩ => h3 pins s6 σ H6 y2 z' u2 w' Q I6 r4 r6 q6))
theorem pt_chain3 {op1 op2 op3 : CmpOp} {q1 q2 q3 : R2} (h1 : OpR X (compareOp op1) q1) (h2 : OpR X (compareOp op2) q2) (h3 : OpR X (compareOp op3) q3) (ha : PE X a ta) (hb : PE X b tb) (hc : PE X c tc) (hd : PE X d td)
    (hm : lastMarks [op1, op2, op3] [b, c, d] = false := by with_unfolding_all rfl) : PT X (.Compare a [op1, op2, op3] [b, c, d] pos) (tTest (tChain3 q1 q2 q3 ta tb tc td)) := by
  refine ⟨fun pins s σ H Q I h => ?_⟩
  refine isTrue_chain (thn (ha.run pins s σ H _ I h) fun v s1 ⟨x, H1, I1, r1, q1⟩ => test_link (thn (hb.run pins s1 σ H1 _ I1 q1) fun u s2 ⟨y, H2, I2, r2, q2⟩ =>
    thn (h1 pins s2 σ H2 x y v u _ I2 r1 r2 q2) fun d s3 ⟨z, H3, I3, r3, k, e, q3⟩ => ?_)) hm
  subst e
  cases r3
  refine wpAny_truthy_bool ?_
  cases k with
  | false =>
    obtain ⟨k', e', q'⟩ := q3
    cases e'
    exact ite_ff ⟨H3, I3, q'⟩
  | true =>
    refine ite_tt (test_link (thn (hc.run pins s3 σ H3 _ I3 q3) fun u2 s4 ⟨y2, H4, I4, r4, q4⟩ => thn (h2 pins s4 σ H4 y y2 u u2 _ I4 r2 r4 q4) fun d2 s5 ⟨z2, H5, I5, r5, k2, e2, q5⟩ => ?_))
    subst e2
    cases r5
    refine wpAny_truthy_bool ?_
    cases k2 with
    | false =>
      obtain ⟨k', e', q'⟩ := q5
      cases e'
      exact ite_ff ⟨H5, I5, q'⟩
    | true =>
      refine ite_tt (test_last (thn (hd.run pins s5 σ H5 _ I5 q5) fun w' s6 ⟨z', H6, I6, r6, q6⟩ => thn (h3 pins s6 σ H6 y2 z' u2 w' _ I6 r4 r6 q6) fun d' s7 ⟨z3, H7, I7, r7, k3, e3, q7⟩ => ?_))
      subst e3
      cases r7
      exact wpAny_truthy_bool ⟨H7, I7, q7⟩
end
/-! ### reading them -/
section
variable {D : Ends} {σ : L2.St} {H : Hp} {Q : VK} {E : XK} {K : PySem.W.Frag} {i j k : Int} {n m : Nat} {x y v : V} {ta tb te tc td : TE} {t u : TS} {c d : TT} {r : R2}
theorem r_max2 (h : Q (.int (if j > i then j else i)) H) : oMax2 [.int i, .int j] H Q := ⟨i, j, rfl, h⟩
theorem r_min2 (h : Q (.int (if j < i then j else i)) H) : oMin2 [.int i, .int j] H Q := ⟨i, j, rfl, h⟩
theorem r_max2' (h : Q (.int (max i j)) H) : oMax2 [.int i, .int j] H Q := r_max2 (by
  have e : (if j > i then j else i) = max i j := by split <;> omega
  rw [e]; exact h)
theorem r_min2' (h : Q (.int (min i j)) H) : oMin2 [.int i, .int j] H Q := r_min2 (by
  have e : (if j < i then j else i) = min i j := by split <;> omega
  rw [e]; exact h)
theorem r_max3 (h : Q (.int (max (max i j) k)) H) : oMax3 [.int i, .int j, .int k] H Q := ⟨i, j, k, rfl, h⟩
theorem r_min3 (h : Q (.int (min (min i j) k)) H) : oMin3 [.int i, .int j, .int k] H Q := ⟨i, j, k, rfl, h⟩
theorem r_intI (h : Q (.int i) H) : oInt [.int i] H Q := .inl ⟨i, rfl, h⟩
theorem r_intB {b : Bool} (h : Q (.int (if b then 1 else 0)) H) : oInt [.bl b] H Q := .inr ⟨b, rfl, h⟩
theorem r_lenL {p : Addr} {xs : List V} (hp : SqL K H p xs) (h : Q (.int xs.length) H) : oLen K [.ref p] H Q := ⟨p, xs, rfl, .inl hp, h⟩
theorem r_lenT {p : Addr} {xs : List V} (hp : SqT K H p xs) (h : Q (.int xs.length) H) : oLen K [.ref p] H Q := ⟨p, xs, rfl, .inr hp, h⟩
theorem r_reprI (hz : i.natAbs.log2 < 1920) (h : Q (.str (toString i)) H) : oRepr [.int i] H Q := ⟨_, _, rfl, rfl, fun j e => by cases e; exact hz, h⟩
theorem r_reprN (h : Q (.str "None") H) : oRepr [.non] H Q := ⟨.non, "None", rfl, rfl, fun j e => (nomatch e), h⟩
theorem r_chain3 {r1 r2 r3 : R2} (h : ta σ H fun x H1 => tb σ H1 fun y H2 => r1 x y H2 fun z H3 => ∃ k, z = .bl k ∧
  (if k = true then tc σ H3 fun u H4 => r2 y u H4 fun z' H5 => ∃ k', z' = .bl k' ∧ (if k' = true then td σ H5 fun w' H6 => r3 u w' H6 Q else Q (.bl false) H5) else Q (.bl false) H3)) : tChain3 r1 r2 r3 ta tb tc td σ H Q := h
theorem r_ixL {p : Addr} {xs : List V} (hp : SqL K H p xs) (ha : atI xs i = some v) (h : Q v H) : rIxL K (.ref p) (.int i) H Q := ⟨p, xs, i, v, rfl, rfl, hp, ha, h⟩
theorem r_ixT {p : Addr} {xs : List V} (hp : SqT K H p xs) (ha : atI xs i = some v) (h : Q v H) : rIxT K (.ref p) (.int i) H Q := ⟨p, xs, i, v, rfl, rfl, hp, ha, h⟩
theorem r_setL {p : Addr} {xs : List V} {Q : Hp → Prop} {jj : Nat} (hp : H p = some (.lst xs)) (ha : ixN xs.length i = some jj) (h : Q (upd H p (.lst (xs.set jj v)))) : rSetL (.ref p) (.int i) v H Q := ⟨p, xs, i, jj, rfl, rfl, hp, ha, h⟩
theorem r_sub {to ti : TE} {ts : TSet} {Q : L2.St → Hp → Prop} (h : to σ H fun o H1 => ti σ H1 fun i H2 => ts o i v H2 fun H3 => Q σ H3) : gSub to ti ts v σ H Q := h
theorem r_gname {Q : L2.St → Hp → Prop} (h : Q (σ.set n (some v)) H) : gName n v σ H Q := h
theorem r_gtup {a : Addr} {xs : List V} {tg : TGs} {Q : L2.St → Hp → Prop} (hp : SqT K H a xs) (hl : xs.length = n) (h : tg xs σ H Q) : gTup K n tg (.ref a) σ H Q := ⟨a, xs, rfl, hp, hl, h⟩
theorem r_gcons {tg : TG} {tgs : TGs} {vs : List V} {Q : L2.St → Hp → Prop} (h : tg v σ H fun σ' H' => tgs vs σ' H' Q) : gCons tg tgs (v :: vs) σ H Q := ⟨v, vs, rfl, h⟩
theorem r_gnil {Q : L2.St → Hp → Prop} (h : Q σ H) : gNil [] σ H Q := ⟨rfl, h⟩
theorem r_slice {r : V → Option Int → Option Int → Hp → VK → Prop} {tl th : TO} (h : te σ H fun x H1 => tl σ H1 fun l H2 => th σ H2 fun u H3 => r x l u H3 Q) : tSl r te tl th σ H Q := h
theorem r_noPart {Q : Option Int → Hp → Prop} (h : Q none H) : tNoPart σ H Q := h
theorem r_part {Q : Option Int → Hp → Prop} (h : te σ H fun x H1 => ∃ i, x = .int i ∧ Q (some i) H1) : tPart te σ H Q := h
theorem r_ex {P : Int → Prop} (h : P i) : ∃ j, V.int i = .int j ∧ P j := ⟨i, rfl, h⟩
theorem r_cat {l b : Addr} {xs zs : List V} (h1 : H l = some (.lst xs)) (h2 : H b = some (.lst zs)) (hz : xs.length + zs.length ≤ 100000) (h : ∀ p, H p = none → Q (.ref p) (upd H p (.lst (xs ++ zs)))) : rCat (.ref l) (.ref b) H Q :=
  ⟨l, b, xs, zs, rfl, rfl, h1, h2, sz_of hz, h⟩
theorem mulL (h : -(2 ^ 64) < i ∧ i < 2 ^ 64) : IntMulOk i j := CMul.ok (.inl h)
theorem mulR (h : -(2 ^ 64) < j ∧ j < 2 ^ 64) : IntMulOk i j := CMul.ok (.inr h)
theorem mulW {a b : Nat} (ha : i.natAbs < 2 ^ a) (hb : j.natAbs < 2 ^ b) (h0 : 0 < a) (h1 : 0 < b) (h : a + b ≤ 1000000) : IntMulOk i j := (wide_mul ha hb h0 h1 h).ok
theorem divP {b : Nat} (h : 0 < j) (hb : j.natAbs < 2 ^ b) (h0 : 0 < b) (h9 : b ≤ 9000) : CDivP i j := ⟨h, Nat.lt_of_lt_of_le (PySem.Flt.log2_lt_of h0 hb) h9⟩
theorem divS (h : 0 < j) (hb : j < 2 ^ 200) : CDivP i j := divP (b := 200) h (by omega) (by decide) (by decide)
theorem bits_lt {i : Int} {b : Nat} (h0 : 0 < b) (hb : i.natAbs < 2 ^ b) : Builtin.Int.intBits i ≤ b := by
  unfold Builtin.Int.intBits
  have := PySem.Flt.log2_lt_of h0 hb
  split <;> omega
theorem powS {b : Nat} (h0 : 0 < b) (hb : i.natAbs < 2 ^ b) (hj : 0 ≤ j) (h : (b : Int) * j ≤ 2 ^ 27) : CPowA i j := ⟨hj, Int.le_trans (Int.mul_le_mul_of_nonneg_right (by have := bits_lt h0 hb; omega) hj) h⟩
end
end Bs

namespace Bs
open PySem PySem.Spec L2
open PyProof.Rows hiding St
/-! ### heaps -/
theorem Same.get {H H' : Hp} {a : Addr} {o : HO} (e : Same H H') (h : H a = some o) : H' a = some o := e _ _ h
theorem ne_none {H : Hp} {a b : Addr} {o : HO} (h' : H b = none) (h : H a = some o) : a ≠ b := ne_of_none h h'
theorem Same.new {H : Hp} {p : Addr} {o : HO} (h : H p = none) : Same H (upd H p o) := fun a u e => (upd_ne (ne_of_none e h)).trans e
theorem Same.newT {H H1 : Hp} {p : Addr} {o : HO} (s : Same H H1) (h : H1 p = none) : Same H (upd H1 p o) := s.trans (Same.new h)
/-- an object that H does not know may change -/
theorem Same.mut {H H1 : Hp} {p : Addr} {o : HO} (s : Same H H1) (h : H p = none) : Same H (upd H1 p o) := fun a u e => (upd_ne (ne_of_none e h)).trans (s a u e)
theorem Same.none {H H1 : Hp} {p : Addr} (s : Same H H1) (h : H1 p = none) : H p = none := s.free h
/-- all but a is as it was -/
def But (a : Addr) (H H' : Hp) : Prop := ∀ b o, b ≠ a → H b = some o → H' b = some o
theorem But.refl (a : Addr) (H : Hp) : But a H H := fun _ _ _ h => h
theorem But.trans {a : Addr} {H H1 H2 : Hp} (x : But a H H1) (y : But a H1 H2) : But a H H2 := fun b o n h => y b o n (x b o n h)
theorem But.of {a : Addr} {H H' : Hp} (s : Same H H') : But a H H' := fun b o _ h => s b o h
theorem But.get {a b : Addr} {H H' : Hp} {o : HO} (e : But a H H') (h : H b = some o) (n : b ≠ a) : H' b = some o := e _ _ n h
theorem But.upd {a : Addr} {H H1 : Hp} {o : HO} (x : But a H H1) : But a H (upd H1 a o) := fun b u n h => (upd_ne n).trans (x b u n h)
theorem But.new {a p : Addr} {H H1 : Hp} {o : HO} (x : But a H H1) (h : H1 p = none) : But a H (L2.upd H1 p o) := x.trans (But.of (Same.new h))
theorem But.mut {a p : Addr} {H H1 : Hp} {o : HO} (x : But a H H1) (h : H p = none) : But a H (L2.upd H1 p o) := fun b u n e => (upd_ne (ne_of_none e h)).trans (x b u n e)
theorem But.seq {K : PySem.W.Frag} {H H' : Hp} {a b : Addr} {xs : List V} (e : But b H H') (h : SqL K H a xs) (n : a ≠ b) : SqL K H' a xs := by
  rcases h with (h | ⟨o, h⟩) | h
  · exact .inl (.inl (e _ _ n h))
  · exact .inl (.inr ⟨o, e _ _ n h⟩)
  · exact .inr h
/-! ### loops -/
section
variable {D : Ends} {σ : L2.St} {H : Hp} {c : TT} {tb : TS}
theorem r_while (W : Nat → L2.St → Hp → Prop) (m : Nat) (w0 : W m σ H) (h : ∀ m σ H, W m σ H → c σ H fun b H1 => if b = true then ∃ N : L2.St → Hp → Prop, (∀ σ' H', N σ' H' → ∃ m', m' < m ∧ W m' σ' H') ∧ tb { D with nx := N, ct := N, bk := D.nx } σ H1 else D.nx σ H1) : tWhile c tb D σ H :=
  ⟨W, ⟨m, w0⟩, h⟩
theorem r_N {m : Nat} {W : Nat → L2.St → Hp → Prop} (h : tb { D with nx := fun σ' H' => ∃ m', m' < m ∧ W m' σ' H', ct := fun σ' H' => ∃ m', m' < m ∧ W m' σ' H', bk := D.nx } σ H) :
    ∃ N : L2.St → Hp → Prop, (∀ σ' H', N σ' H' → ∃ m', m' < m ∧ W m' σ' H') ∧ tb { D with nx := N, ct := N, bk := D.nx } σ H := ⟨_, fun _ _ z => z, h⟩
end
theorem atI_0 {α : Type} {x : α} {xs : List α} : atI (x :: xs) 0 = some x := by
  unfold atI ixN
  rw [if_pos (Int.le_refl _), if_pos (by rw [List.length_cons]; omega)]
  rfl
theorem atI_i {α : Type} {xs : List α} {v : α} {i : Int} (h0 : 0 ≤ i) (h : xs[i.toNat]? = some v) : atI xs i = some v := by
  have := atI_nat h
  rwa [Int.toNat_of_nonneg h0] at this
/-- a draw picks some item of a written list -/
theorem atI_mem {xs : List V} {i : Int} (h0 : 0 ≤ i) (h1 : i < xs.length) : ∃ v, atI xs i = some v ∧ v ∈ xs := by
  have h : i.toNat < xs.length := by omega
  exact ⟨xs[i.toNat], atI_i h0 (List.getElem?_eq_getElem h), List.getElem_mem h⟩
end Bs

namespace Bm
/-! ### binomials: rc s r is the number of states that s slots reach by r rounds -/
def rch : Nat → Nat → Nat
  | 0, _ => 1
  | _ + 1, 0 => 1
  | s + 1, r + 1 => rch s (r + 1) + rch (s + 1) r
termination_by s r => (s, r)
theorem rch_z (r : Nat) : rch 0 r = 1 := by rw [rch]
theorem rch_s0 (s : Nat) : rch s 0 = 1 := by cases s <;> rw [rch]
theorem rch_ss (s r : Nat) : rch (s + 1) (r + 1) = rch s (r + 1) + rch (s + 1) r := by rw [rch]
theorem rch_pos : ∀ s r : Nat, 1 ≤ rch s r
  | 0, r => by rw [rch_z]; exact Nat.le_refl _
  | s + 1, 0 => by rw [rch_s0]; exact Nat.le_refl _
  | s + 1, r + 1 => by rw [rch_ss]; have := rch_pos s (r + 1); omega
termination_by s r => (s, r)
theorem rch_1 : ∀ r : Nat, rch 1 r = r + 1
  | 0 => by rw [rch_s0]
  | r + 1 => by rw [rch_ss, rch_z, rch_1 r]; omega
/-- (s + 1) C(s + 1 + r, r) = (s + 1 + r) C(s + r, r) and its twin by r -/
theorem rch_prod : ∀ s r : Nat, (s + 1) * rch (s + 1) r = (s + 1 + r) * rch s r ∧ r * rch (s + 1) r = (s + 1 + r) * rch (s + 1) (r - 1) - (if r = 0 then (s + 1) else 0)
  | s, 0 => by
    refine ⟨by rw [rch_s0, rch_s0], ?_⟩
    rw [if_pos rfl]
    show 0 * rch (s + 1) 0 = (s + 1 + 0) * rch (s + 1) 0 - (s + 1)
    rw [rch_s0]; omega
  | 0, r + 1 => by
    refine ⟨by rw [rch_1, rch_z]; omega, ?_⟩
    rw [rch_1, if_neg (by omega)]
    show (r + 1) * (r + 1 + 1) = (0 + 1 + (r + 1)) * rch 1 r - 0
    rw [rch_1, Nat.sub_zero, Nat.mul_comm]
    congr 1 <;> omega
  | s + 1, r + 1 => by
    obtain ⟨a1, a2⟩ := rch_prod s (r + 1)
    obtain ⟨b1, b2⟩ := rch_prod (s + 1) r
    rw [if_neg (by omega)] at a2
    have e2 : rch (s + 1 + 1) (r + 1) = rch (s + 1) (r + 1) + rch (s + 1 + 1) r := rch_ss (s + 1) r
    have a2' : (r + 1) * rch (s + 1) (r + 1) = (s + 1 + (r + 1)) * rch (s + 1) r := by simpa using a2
    -- x = rch (s+1) (r+1), y = rch (s+2) r, z = rch (s+1) r
    have b1' : (s + 1 + 1) * rch (s + 1 + 1) r = (s + 1 + 1 + r) * rch (s + 1) r := b1
    have key : (r + 1) * rch (s + 1) (r + 1) = (s + 1 + 1) * rch (s + 1 + 1) r := by
      rw [a2', b1']
      congr 1 <;> omega
    constructor
    · rw [e2, Nat.mul_add]
      rw [← key, ← Nat.add_mul]
    · rw [if_neg (by omega), Nat.sub_zero, e2, Nat.mul_add, key, ← Nat.add_mul]
      show (s + 1 + 1 + (r + 1)) * rch (s + 1 + 1) r = (s + 1 + 1 + (r + 1)) * rch (s + 1 + 1) (r + 1 - 1)
      rw [Nat.add_sub_cancel]
termination_by s r => (s, r)
def rc (s : Nat) (r : Int) : Int := if s = 0 then 1 else if r < 0 then 0 else (rch s r.toNat : Nat)
theorem rc_0 (r : Int) : rc 0 r = 1 := by unfold rc; rw [if_pos rfl]
theorem rc_neg {s : Nat} {r : Int} (h : r < 0) : rc (s + 1) r = 0 := by unfold rc; rw [if_neg (by omega), if_pos h]
theorem rc_nat (s r : Nat) : rc s (r : Int) = (rch s r : Nat) := by
  unfold rc
  by_cases h : s = 0
  · subst h; rw [if_pos rfl, rch_z]; rfl
  · rw [if_neg h, if_neg (by omega), Int.toNat_natCast]
theorem rc_of {s : Nat} {r : Int} (h : 0 ≤ r) : rc s r = (rch s r.toNat : Nat) := by
  have := rc_nat s r.toNat
  rwa [Int.toNat_of_nonneg h] at this
theorem rc_pascal {s : Nat} {r : Int} (h : 0 ≤ r) : rc (s + 1) r = rc s r + rc (s + 1) (r - 1) := by
  rw [rc_of h, rc_of h]
  by_cases h0 : r = 0
  · subst h0
    rw [rc_neg (by omega)]
    show ((rch (s + 1) 0 : Nat) : Int) = (rch s 0 : Nat) + 0
    rw [rch_s0, rch_s0]; rfl
  · have e : r.toNat = (r - 1).toNat + 1 := by omega
    rw [rc_of (s := s + 1) (show 0 ≤ r - 1 by omega), e, rch_ss]
    omega
theorem rc_pos {s : Nat} {r : Int} (h : 0 ≤ r) : 1 ≤ rc s r := by
  rw [rc_of h]
  have := rch_pos s r.toNat
  omega
theorem rc_nn (s : Nat) (r : Int) : 0 ≤ rc s r := by
  unfold rc
  split
  · omega
  · split <;> omega
theorem rc_step (s : Nat) (r : Int) : rc s (r - 1) ≤ rc s r := by
  cases s with
  | zero => rw [rc_0, rc_0]; omega
  | succ s =>
    by_cases h : r < 0
    · rw [rc_neg (by omega), rc_neg h]; omega
    · have := rc_pascal (s := s) (r := r) (by omega)
      have := rc_nn s r
      omega
theorem rc_lt {s : Nat} {r : Int} (h : 0 ≤ r) : rc (s + 1) (r - 1) < rc (s + 1) r := by
  have := rc_pascal (s := s) h
  have := rc_pos (s := s) h
  omega
theorem rc_mono {s : Nat} {r q : Int} (h : r ≤ q) : rc s r ≤ rc s q := by
  obtain ⟨k, rfl⟩ : ∃ k : Nat, q = r + k := ⟨(q - r).toNat, by omega⟩
  clear h
  induction k with
  | zero => simp
  | succ k ih =>
    have := rc_step s (r + (k + 1 : Nat))
    have e : r + ((k + 1 : Nat) : Int) - 1 = r + (k : Int) := by omega
    rw [e] at this
    omega
theorem rc_smaller {s : Nat} {r : Int} (h : 0 ≤ r) : rc s r ≤ rc (s + 1) r := by
  have := rc_pascal (s := s) h
  have := rc_nn (s + 1) (r - 1)
  omega
theorem rc_1 {r : Int} (h : -1 ≤ r) : rc 1 r = r + 1 := by
  by_cases h0 : r < 0
  · rw [rc_neg h0]; omega
  · rw [rc_of (by omega), rch_1]; omega
theorem rc_smono {s q : Nat} {r : Int} (h : 0 ≤ r) (hs : s ≤ q) : rc s r ≤ rc q r := by
  induction q with
  | zero => rw [show s = 0 by omega]; omega
  | succ q ih =>
    by_cases e : s = q + 1
    · rw [e]; omega
    · have := ih (by omega)
      have := rc_smaller (s := q) h
      omega
theorem rc_lin {s : Nat} {r : Int} (h : -1 ≤ r) : r + 1 ≤ rc (s + 1) r := by
  by_cases h0 : r < 0
  · rw [rc_neg h0]; omega
  · have := rc_smono (s := 1) (q := s + 1) (r := r) (by omega) (by omega)
    rw [rc_1 h] at this
    exact this
theorem rc_prod {s : Nat} {r : Int} (h : -1 ≤ r) : rc s r * (r + s + 1) = ((s : Int) + 1) * rc (s + 1) r := by
  by_cases h0 : r < 0
  · have e : r = -1 := by omega
    subst e
    rw [rc_neg (s := s) (by omega)]
    cases s with
    | zero => rw [rc_0]; simp
    | succ s => rw [rc_neg (by omega)]; simp
  · rw [rc_of (by omega), rc_of (by omega)]
    have := (rch_prod s r.toNat).1
    have e : (r + s + 1 : Int) = ((s + 1 + r.toNat : Nat) : Int) := by omega
    rw [e, Int.mul_comm]
    have e2 : ((s : Int) + 1) = ((s + 1 : Nat) : Int) := by omega
    rw [e2, ← Int.natCast_mul, ← Int.natCast_mul, this]
theorem rc_div {s : Nat} {r : Int} (h : -1 ≤ r) : rc s r * (r + s + 1) / ((s : Int) + 1) = rc (s + 1) r := by
  rw [rc_prod h, Int.mul_ediv_cancel_left _ (by omega)]
/-- a form that computes -/
def rcC : Nat → Int → Int
  | 0, _ => 1
  | s + 1, r => rcC s r * (r + s + 1) / ((s : Int) + 1)
theorem rcC_eq {r : Int} (h : -1 ≤ r) : ∀ s : Nat, rcC s r = rc s r
  | 0 => by rw [rc_0]; rfl
  | s + 1 => by rw [rcC, rcC_eq h s, rc_div h]
/-- a bound that suffices for the sizes of products -/
theorem rc_le {r : Int} (h : -1 ≤ r) (hr : r ≤ 2 ^ 110) : ∀ s : Nat, s ≤ 1000 → rc s r ≤ 2 ^ (111 * s)
  | 0, _ => by rw [rc_0]; decide
  | s + 1, hs => by
    have ih := rc_le h hr s (by omega)
    have h1 := rc_prod (s := s) h
    have h0 := rc_nn s r
    have h2 := rc_nn (s + 1) r
    have a : rc (s + 1) r ≤ ((s : Int) + 1) * rc (s + 1) r := by
      have := Int.mul_le_mul_of_nonneg_right (show (1 : Int) ≤ (s : Int) + 1 by omega) h2
      omega
    have b : rc s r * (r + s + 1) ≤ 2 ^ (111 * s) * 2 ^ 111 := by
      refine Int.le_trans (Int.mul_le_mul_of_nonneg_left (show r + s + 1 ≤ 2 ^ 111 by omega) h0) (Int.mul_le_mul_of_nonneg_right ih (by decide))
    have e : (2 : Int) ^ (111 * (s + 1)) = 2 ^ (111 * s) * 2 ^ 111 := by
      rw [Nat.mul_add, Int.pow_add]
    rw [e]
    omega
/-! ### rounds -/
structure IsR (n : Int) (s : Nat) (r : Int) : Prop where
  nn : 0 ≤ r
  hi : n ≤ rc s r
  lo : rc s (r - 1) < n
theorem IsR.le {n q : Int} {s : Nat} {r : Int} (h : IsR n s r) (hq : n ≤ rc s q) : r ≤ q := by
  apply Decidable.byContradiction
  intro c
  have := rc_mono (s := s) (r := q) (q := r - 1) (by omega)
  have := h.lo
  omega
theorem IsR.uniq {n : Int} {s : Nat} {r q : Int} (h : IsR n s r) (g : IsR n s q) : r = q := by
  have := h.le g.hi
  have := g.le h.hi
  omega
def rhoF (n : Int) (s : Nat) : Nat → Int → Int
  | 0, r => r
  | f + 1, r => if n ≤ rc s r then r else rhoF n s f (r + 1)
def rho (n : Int) (s : Nat) : Int := rhoF n s n.toNat 0
theorem rhoF_is {n : Int} {s : Nat} : ∀ (f : Nat) (r : Int), 0 ≤ r → rc (s + 1) (r - 1) < n → n ≤ rc (s + 1) (r + f) → IsR n (s + 1) (rhoF n (s + 1) f r)
  | 0, r, h0, h1, h2 => ⟨h0, by simpa [rhoF] using h2, h1⟩
  | f + 1, r, h0, h1, h2 => by
    unfold rhoF
    by_cases c : n ≤ rc (s + 1) r
    · rw [if_pos c]; exact ⟨h0, c, h1⟩
    · rw [if_neg c]
      refine rhoF_is f (r + 1) (by omega) ?_ ?_
      · rw [show r + 1 - 1 = r by omega]; omega
      · rw [show r + 1 + (f : Int) = r + ((f + 1 : Nat) : Int) by omega]; exact h2
theorem rho_is {n : Int} {s : Nat} (hn : 1 ≤ n) (hs : 1 ≤ s) : IsR n s (rho n s) := by
  obtain ⟨s, rfl⟩ : ∃ k, s = k + 1 := ⟨s - 1, by omega⟩
  refine rhoF_is _ 0 (by omega) ?_ ?_
  · rw [rc_neg (by omega)]; omega
  · have := rc_lin (s := s) (r := 0 + (n.toNat : Int)) (by omega)
    omega
theorem rho_eq {n : Int} {s : Nat} {r : Int} (hn : 1 ≤ n) (hs : 1 ≤ s) (h : IsR n s r) : rho n s = r := (rho_is hn hs).uniq h
theorem rho_lt {n : Int} {s : Nat} (hn : 1 ≤ n) (hs : 1 ≤ s) : rho n s < n := by
  have h := rho_is hn hs
  obtain ⟨s, rfl⟩ : ∃ k, s = k + 1 := ⟨s - 1, by omega⟩
  have := rc_lin (s := s) (r := rho n (s + 1) - 1) (by have := h.nn; omega)
  have := h.lo
  omega
theorem rho_0 {s : Nat} (hs : 1 ≤ s) : rho 1 s = 0 := by
  obtain ⟨s, rfl⟩ : ∃ k, s = k + 1 := ⟨s - 1, by omega⟩
  refine rho_eq (by omega) (by omega) ⟨by omega, rc_pos (by omega), ?_⟩
  rw [rc_neg (by omega)]; omega
theorem rho_pos {n : Int} {s : Nat} (hn : 2 ≤ n) (hs : 1 ≤ s) : 1 ≤ rho n s := by
  have h := rho_is (n := n) (by omega) hs
  apply Decidable.byContradiction
  intro c
  have e : rho n s = 0 := by have := h.nn; omega
  have := h.hi
  rw [e, rc_of (by omega), show (0 : Int).toNat = 0 from rfl, rch_s0] at this
  omega
theorem rho_mono {n m : Int} {s : Nat} (hn : 1 ≤ n) (h : n ≤ m) (hs : 1 ≤ s) : rho n s ≤ rho m s :=
  (rho_is hn hs).le (Int.le_trans h (rho_is (by omega) hs).hi)
theorem rho_smono {n : Int} {s q : Nat} (hn : 1 ≤ n) (hs : 1 ≤ s) (h : s ≤ q) : rho n q ≤ rho n s := by
  have a := rho_is hn hs
  have b := rho_is (s := q) hn (by omega)
  exact b.le (Int.le_trans a.hi (rc_smono a.nn h))
/-! ### the least steps -/
def gg (n : Int) (s : Nat) (k : Int) : Int := k * n - rc (s + 1) (k - 1)
def tt (n : Int) (s : Nat) : Int := gg n s (rho n s)
theorem gg_step {n : Int} {s : Nat} {k : Int} (h : 0 ≤ k) : gg n s (k + 1) = gg n s k + (n - rc s k) := by
  unfold gg
  have := rc_pascal (s := s) (r := k) h
  rw [Int.add_mul, show k + 1 - 1 = k by omega]
  omega
theorem gg_up {n : Int} {s : Nat} {k : Int} (h0 : 0 ≤ k) : ∀ (j : Nat), n ≥ rc s (k + j - 1) → gg n s k ≤ gg n s (k + j) ∧ (n > rc s k → 1 ≤ j → gg n s k < gg n s (k + j))
  | 0, _ => by simp
  | j + 1, h => by
    have e : k + ((j + 1 : Nat) : Int) = (k + j) + 1 := by omega
    rw [e] at h ⊢
    rw [show k + (j : Int) + 1 - 1 = k + j by omega] at h
    have h1 := rc_mono (s := s) (r := k + j - 1) (q := k + j) (by omega)
    have ih := gg_up (n := n) (s := s) h0 j (by omega)
    rw [gg_step (by omega)]
    refine ⟨by have := ih.1; omega, fun c _ => ?_⟩
    cases j with
    | zero => simp at c h ⊢; omega
    | succ j => have := ih.2 c (by omega); omega
theorem gg_down {n : Int} {s : Nat} {k : Int} (h0 : 0 ≤ k) (h : n ≤ rc s k) : ∀ (j : Nat), gg n s (k + j) ≤ gg n s k ∧ (n < rc s (k + j - 1) → 1 ≤ j → gg n s (k + j) < gg n s k)
  | 0 => by simp
  | j + 1 => by
    have e : k + ((j + 1 : Nat) : Int) = (k + j) + 1 := by omega
    rw [e, show k + (j : Int) + 1 - 1 = k + j by omega]
    have h1 := rc_mono (s := s) (r := k) (q := k + j) (by omega)
    have ih := (gg_down (n := n) (s := s) h0 h j).1
    rw [gg_step (by omega)]
    exact ⟨by omega, fun c _ => by omega⟩
/-- tt is the greatest of the lines gg -/
theorem gg_le {n : Int} {s : Nat} {k : Int} (hn : 1 ≤ n) (hs : 1 ≤ s) (hk : 0 ≤ k) : gg n s k ≤ tt n s := by
  have h := rho_is hn hs
  have := h.lo
  have := h.hi
  unfold tt
  by_cases c : k ≤ rho n s
  · obtain ⟨j, e⟩ : ∃ j : Nat, rho n s = k + j := ⟨(rho n s - k).toNat, by omega⟩
    have := (gg_up (n := n) (s := s) hk j (by rw [← e]; omega)).1
    rw [← e] at this
    exact this
  · obtain ⟨j, e⟩ : ∃ j : Nat, k = rho n s + j := ⟨(k - rho n s).toNat, by omega⟩
    have := (gg_down h.nn h.hi j).1
    rw [← e] at this
    exact this
theorem gg_eq {n : Int} {s : Nat} {k : Int} (hn : 1 ≤ n) (hs : 1 ≤ s) (hk : 0 ≤ k) : gg n s k = tt n s ↔ rc s (k - 1) ≤ n ∧ n ≤ rc s k := by
  have h := rho_is hn hs
  have h1 := h.lo
  have h2 := h.hi
  unfold tt
  by_cases c : k ≤ rho n s
  · obtain ⟨j, e⟩ : ∃ j : Nat, rho n s = k + j := ⟨(rho n s - k).toNat, by omega⟩
    have u := gg_up (n := n) (s := s) hk j (by rw [← e]; omega)
    rw [← e] at u
    have m1 := rc_mono (s := s) (r := k - 1) (q := rho n s - 1) (by omega)
    constructor
    · intro q
      refine ⟨by omega, ?_⟩
      apply Decidable.byContradiction
      intro d
      by_cases j0 : j = 0
      · subst j0; rw [show rho n s = k by omega] at h2; omega
      · have := u.2 (by omega) (by omega)
        omega
    · rintro ⟨_, q⟩
      by_cases j0 : j = 0
      · rw [e, j0]; simp
      · -- n > rc s (rho - 1) ≥ rc s k ≥ n
        have m2 := rc_mono (s := s) (r := k) (q := rho n s - 1) (by omega)
        omega
  · obtain ⟨j, e⟩ : ∃ j : Nat, k = rho n s + j := ⟨(k - rho n s).toNat, by omega⟩
    have u := gg_down (n := n) (s := s) h.nn h.hi j
    rw [← e] at u
    have m1 := rc_mono (s := s) (r := rho n s) (q := k) (by omega)
    constructor
    · intro q
      refine ⟨?_, by omega⟩
      apply Decidable.byContradiction
      intro d
      have := u.2 (by omega) (by omega)
      omega
    · rintro ⟨q, _⟩
      -- rc s (k - 1) ≤ n ≤ rc s rho ≤ rc s (k - 1): all steps between are nought
      have z : ∀ i : Nat, i ≤ j → gg n s (rho n s + i) = gg n s (rho n s) := by
        intro i
        induction i with
        | zero => intro _; simp
        | succ i ih =>
          intro hi
          rw [show rho n s + ((i + 1 : Nat) : Int) = (rho n s + i) + 1 by omega, gg_step (by have := h.nn; omega), ih (by omega)]
          have m2 := rc_mono (s := s) (r := rho n s) (q := rho n s + i) (by omega)
          have m3 := rc_mono (s := s) (r := rho n s + i) (q := k - 1) (by omega)
          omega
      rw [e]
      exact z j (Nat.le_refl _)
theorem tt_1 {s : Nat} (hs : 1 ≤ s) : tt 1 s = 0 := by
  unfold tt gg
  rw [rho_0 hs, rc_neg (by omega)]
  omega
/-- one state more: as many steps more as its rounds -/
theorem tt_step {n : Int} {s : Nat} (hn : 1 ≤ n) (hs : 1 ≤ s) : tt (n + 1) s = tt n s + rho (n + 1) s := by
  have h := rho_is (n := n + 1) (by omega) hs
  have e := (gg_eq (n := n) (s := s) (k := rho (n + 1) s) hn hs h.nn).mpr ⟨by have := h.lo; omega, by have := h.hi; omega⟩
  rw [← e]
  show gg (n + 1) s (rho (n + 1) s) = gg n s (rho (n + 1) s) + rho (n + 1) s
  unfold gg
  rw [Int.mul_add]
  omega
theorem tt_nn {n : Int} {s : Nat} (hn : 1 ≤ n) (hs : 1 ≤ s) : 0 ≤ tt n s := by
  have := gg_le (n := n) (s := s) (k := 0) hn hs (by omega)
  unfold gg at this
  rw [rc_neg (by omega)] at this
  omega
/-- more slots: no more steps -/
theorem tt_smono {n : Int} {s : Nat} (hn : 1 ≤ n) (hs : 1 ≤ s) : tt n (s + 1) ≤ tt n s := by
  have h := rho_is (n := n) (s := s + 1) hn (by omega)
  have a := gg_le (n := n) (s := s) (k := rho n (s + 1)) hn hs h.nn
  have : gg n (s + 1) (rho n (s + 1)) ≤ gg n s (rho n (s + 1)) := by
    unfold gg
    by_cases c : rho n (s + 1) - 1 < 0
    · rw [rc_neg c, rc_neg c]; omega
    · have := rc_smaller (s := s + 1) (r := rho n (s + 1) - 1) (by omega)
      omega
  unfold tt at a ⊢
  omega
/-! ### splits -/
/-- the steps of a split at m, less the least -/
def loss (n : Int) (s : Nat) (m : Int) : Int := m + tt (n - m) (s - 1) + tt m s - tt n s
def spLo (n : Int) (s : Nat) : Int := max (max 1 (rc s (rho n s - 2))) (n - rc (s - 1) (rho n s))
def spHi (n : Int) (s : Nat) : Int := min (min (n - 1) (rc s (rho n s - 1))) (n - rc (s - 1) (rho n s - 1))
section
variable {n m : Int} {s : Nat}
theorem split_sum {r : Int} (hr : 1 ≤ r) (hs : 2 ≤ s) : m + gg (n - m) (s - 1) r + gg m s (r - 1) = gg n s r := by
  unfold gg
  have e : s - 1 + 1 = s := by omega
  have := rc_pascal (s := s) (r := r - 1) (by omega)
  have e1 : r * (n - m) = r * n - r * m := Int.mul_sub ..
  have e2 : (r - 1) * m = r * m - m := by rw [Int.sub_mul, Int.one_mul]
  rw [e, e1, e2]
  omega
theorem loss_nn (hn : 2 ≤ n) (hs : 2 ≤ s) (h1 : 1 ≤ m) (h2 : m < n) : 0 ≤ loss n s m := by
  have hr := rho_pos (n := n) (s := s) hn (by omega)
  have a := gg_le (n := n - m) (s := s - 1) (k := rho n s) (by omega) (by omega) (by omega)
  have b := gg_le (n := m) (s := s) (k := rho n s - 1) h1 (by omega) (by omega)
  have c := split_sum (n := n) (m := m) (s := s) hr hs
  unfold loss
  have d : tt n s = gg n s (rho n s) := rfl
  omega
theorem loss_0 (hn : 2 ≤ n) (hs : 2 ≤ s) (h1 : 1 ≤ m) (h2 : m < n) : loss n s m = 0 ↔ spLo n s ≤ m ∧ m ≤ spHi n s := by
  have hr := rho_pos (n := n) (s := s) hn (by omega)
  have a := gg_le (n := n - m) (s := s - 1) (k := rho n s) (by omega) (by omega) (by omega)
  have b := gg_le (n := m) (s := s) (k := rho n s - 1) h1 (by omega) (by omega)
  have a' := gg_eq (n := n - m) (s := s - 1) (k := rho n s) (by omega) (by omega) (by omega)
  have b' := gg_eq (n := m) (s := s) (k := rho n s - 1) h1 (by omega) (by omega)
  have c := split_sum (n := n) (m := m) (s := s) hr hs
  have d : tt n s = gg n s (rho n s) := rfl
  rw [show rho n s - 1 - 1 = rho n s - 2 by omega] at b'
  have e : loss n s m = 0 ↔ gg (n - m) (s - 1) (rho n s) = tt (n - m) (s - 1) ∧ gg m s (rho n s - 1) = tt m s := by
    unfold loss
    constructor
    · intro q
      exact ⟨by omega, by omega⟩
    · rintro ⟨q1, q2⟩
      omega
  rw [e, a', b']
  unfold spLo spHi
  omega
theorem split_range (hn : 2 ≤ n) (hs : 2 ≤ s) : 1 ≤ spLo n s ∧ spLo n s ≤ spHi n s ∧ spHi n s < n := by
  have hr := rho_pos (n := n) (s := s) hn (by omega)
  have h := rho_is (n := n) (s := s) (by omega) (by omega)
  have h1 := h.lo
  have h2 := h.hi
  obtain ⟨s, rfl⟩ : ∃ k, s = k + 2 := ⟨s - 2, by omega⟩
  have e : s + 2 - 1 = s + 1 := by omega
  have p1 := rc_pascal (s := s + 1) (r := rho n (s + 2)) (by omega)
  have p2 := rc_pascal (s := s + 1) (r := rho n (s + 2) - 1) (by omega)
  have q1 := rc_pos (s := s + 2) (r := rho n (s + 2) - 1) (by omega)
  have q2 := rc_pos (s := s + 1) (r := rho n (s + 2)) (by omega)
  have q3 := rc_pos (s := s + 1) (r := rho n (s + 2) - 1) (by omega)
  have m1 := rc_step (s + 2) (rho n (s + 2) - 1)
  have m2 := rc_step (s + 1) (rho n (s + 2))
  rw [show rho n (s + 2) - 1 - 1 = rho n (s + 2) - 2 by omega] at *
  have e2 : s + 1 + 1 = s + 2 := rfl
  rw [e2] at p1 p2
  have z := rc_nn (s + 2) (rho n (s + 2) - 2)
  unfold spLo spHi
  rw [e]
  omega
theorem loss_step (hs : 2 ≤ s) (h1 : 1 ≤ m) (h2 : m + 1 < n) : loss n s (m + 1) = loss n s m + 1 + rho (m + 1) s - rho (n - m) (s - 1) := by
  unfold loss
  have a := tt_step (n := m) (s := s) h1 (by omega)
  have b := tt_step (n := n - (m + 1)) (s := s - 1) (by omega) (by omega)
  rw [show n - (m + 1) + 1 = n - m by omega] at b
  omega
theorem loss_falls (hn : 2 ≤ n) (hs : 2 ≤ s) (h1 : 1 ≤ m) (h2 : m < spLo n s) : loss n s (m + 1) ≤ loss n s m := by
  have R := split_range hn hs
  have h := rho_is (n := n) (s := s) (by omega) (by omega)
  have hr := rho_pos (n := n) (s := s) hn (by omega)
  rw [loss_step hs h1 (by omega)]
  have A := rho_is (n := m + 1) (s := s) (by omega) (by omega)
  have B := rho_is (n := n - m) (s := s - 1) (by omega) (by omega)
  have hlo := h.lo
  have hhi := h.hi
  obtain ⟨s, rfl⟩ : ∃ k, s = k + 2 := ⟨s - 2, by omega⟩
  have e : s + 2 - 1 = s + 1 := by omega
  rw [e] at B ⊢
  have h2' := h2
  unfold spLo at h2
  rw [e] at h2
  by_cases c : m < rc (s + 2) (rho n (s + 2) - 2)
  · have a1 := A.le (q := rho n (s + 2) - 2) (by omega)
    have p2 := rc_pascal (s := s + 1) (r := rho n (s + 2) - 1) (by omega)
    rw [show rho n (s + 2) - 1 - 1 = rho n (s + 2) - 2 by omega, show s + 1 + 1 = s + 2 from rfl] at p2
    have b1 : rho n (s + 2) - 1 < rho (n - m) (s + 1) := by
      apply Decidable.byContradiction
      intro d
      have := rc_mono (s := s + 1) (r := rho (n - m) (s + 1)) (q := rho n (s + 2) - 1) (by omega)
      have := B.hi
      omega
    omega
  · have c2 : m < n - rc (s + 1) (rho n (s + 2)) := by
      apply Decidable.byContradiction
      intro d
      have := Int.max_le.mpr ⟨Int.max_le.mpr ⟨h1, Int.not_lt.mp c⟩, Int.not_lt.mp d⟩
      omega
    have a1 := A.le (q := rho n (s + 2)) (by omega)
    have b1 : rho n (s + 2) < rho (n - m) (s + 1) := by
      apply Decidable.byContradiction
      intro d
      have := rc_mono (s := s + 1) (r := rho (n - m) (s + 1)) (q := rho n (s + 2)) (by omega)
      have := B.hi
      omega
    omega
theorem loss_rises (hn : 2 ≤ n) (hs : 2 ≤ s) (h1 : spHi n s < m) (h2 : m < n) : loss n s (m - 1) ≤ loss n s m := by
  have R := split_range hn hs
  have h := rho_is (n := n) (s := s) (by omega) (by omega)
  have hr := rho_pos (n := n) (s := s) hn (by omega)
  have st := loss_step (n := n) (m := m - 1) hs (by omega) (by omega)
  rw [show m - 1 + 1 = m by omega] at st
  have A := rho_is (n := m) (s := s) (by omega) (by omega)
  have B := rho_is (n := n - (m - 1)) (s := s - 1) (by omega) (by omega)
  have hlo := h.lo
  have hhi := h.hi
  obtain ⟨s, rfl⟩ : ∃ k, s = k + 2 := ⟨s - 2, by omega⟩
  have e : s + 2 - 1 = s + 1 := by omega
  rw [e] at B st
  unfold spHi at h1
  rw [e] at h1
  by_cases c : rc (s + 2) (rho n (s + 2) - 1) < m
  · have a1 : rho n (s + 2) - 1 < rho m (s + 2) := by
      apply Decidable.byContradiction
      intro d
      have := rc_mono (s := s + 2) (r := rho m (s + 2)) (q := rho n (s + 2) - 1) (by omega)
      have := A.hi
      omega
    have p1 := rc_pascal (s := s + 1) (r := rho n (s + 2)) (by omega)
    rw [show s + 1 + 1 = s + 2 from rfl] at p1
    have b1 := B.le (q := rho n (s + 2)) (by omega)
    omega
  · have c2 : n - rc (s + 1) (rho n (s + 2) - 1) < m := by omega
    have b1 := B.le (q := rho n (s + 2) - 1) (by omega)
    have p2 := rc_pascal (s := s + 1) (r := rho n (s + 2) - 1) (by omega)
    rw [show rho n (s + 2) - 1 - 1 = rho n (s + 2) - 2 by omega, show s + 1 + 1 = s + 2 from rfl] at p2
    have a1 : rho n (s + 2) - 2 < rho m (s + 2) := by
      apply Decidable.byContradiction
      intro d
      have := rc_mono (s := s + 2) (r := rho m (s + 2)) (q := rho n (s + 2) - 2) (by omega)
      have := A.hi
      omega
    omega
end
end Bm

namespace Bm
def rcI (s r : Int) : Int := rc s.toNat r
def rhoI (n s : Int) : Int := rho n s.toNat
def ggI (n s r : Int) : Int := r * n - rcI (s + 1) (r - 1)
def ttI (n s : Int) : Int := tt n s.toNat
def lossI (n s m : Int) : Int := m + ttI (n - m) (s - 1) + ttI m s - ttI n s
def loI (n s : Int) : Int := max (max 1 (if rhoI n s > 1 then rcI s (rhoI n s - 2) else 0)) (n - rcI (s - 1) (rhoI n s))
def hiI (n s : Int) : Int := min (min (n - 1) (rcI s (rhoI n s - 1))) (n - rcI (s - 1) (rhoI n s - 1))
section
variable {n s m r : Int}
theorem ttI_eq (hs : 0 ≤ s) : ttI n s = ggI n s (rhoI n s) := by
  unfold ttI tt gg ggI rcI rhoI
  rw [show (s + 1).toNat = s.toNat + 1 by omega]
theorem rhoI_nn (hn : 1 ≤ n) (hs : 1 ≤ s) : 0 ≤ rhoI n s := (rho_is hn (by omega)).nn
theorem rhoI_pos (hn : 2 ≤ n) (hs : 1 ≤ s) : 1 ≤ rhoI n s := rho_pos hn (by omega)
theorem rhoI_lt (hn : 1 ≤ n) (hs : 1 ≤ s) : rhoI n s < n := rho_lt hn (by omega)
theorem lossI_eq (hs : 1 ≤ s) : lossI n s m = loss n s.toNat m := by
  unfold lossI loss ttI
  rw [show (s - 1).toNat = s.toNat - 1 by omega]
theorem loI_eq (hn : 1 ≤ n) (hs : 2 ≤ s) : loI n s = spLo n s.toNat := by
  unfold loI spLo rhoI rcI
  rw [show (s - 1).toNat = s.toNat - 1 by omega]
  by_cases c : rho n s.toNat > 1
  · rw [if_pos c]
  · rw [if_neg c]
    obtain ⟨k, e⟩ : ∃ k, s.toNat = k + 1 := ⟨s.toNat - 1, by omega⟩
    by_cases d : rho n s.toNat = 1
    · rw [d, e, rc_neg (s := k) (r := 1 - 2) (by omega)]
    · have := (rho_is (n := n) (s := s.toNat) hn (by omega)).nn
      have e0 : rho n s.toNat = 0 := by omega
      rw [e0, e, rc_neg (s := k) (r := 0 - 2) (by omega)]
theorem hiI_eq (hs : 2 ≤ s) : hiI n s = spHi n s.toNat := by
  unfold hiI spHi rhoI rcI
  rw [show (s - 1).toNat = s.toNat - 1 by omega]
theorem rangeI (hn : 2 ≤ n) (hs : 2 ≤ s) : 1 ≤ loI n s ∧ loI n s ≤ hiI n s ∧ hiI n s < n := by
  rw [loI_eq (by omega) hs, hiI_eq hs]
  exact split_range hn (by omega)
theorem lossI_0 (hn : 2 ≤ n) (hs : 2 ≤ s) (h1 : 1 ≤ m) (h2 : m < n) : lossI n s m = 0 ↔ loI n s ≤ m ∧ m ≤ hiI n s := by
  rw [loI_eq (by omega) hs, hiI_eq hs, lossI_eq (by omega)]
  exact loss_0 hn (by omega) h1 h2
theorem lossI_nn (hn : 2 ≤ n) (hs : 2 ≤ s) (h1 : 1 ≤ m) (h2 : m < n) : 0 ≤ lossI n s m := by
  rw [lossI_eq (by omega)]
  exact loss_nn hn (by omega) h1 h2
theorem lossI_falls (hn : 2 ≤ n) (hs : 2 ≤ s) (h1 : 1 ≤ m) (h2 : m < loI n s) : lossI n s (m + 1) ≤ lossI n s m := by
  rw [loI_eq (by omega) hs] at h2
  rw [lossI_eq (by omega), lossI_eq (by omega)]
  exact loss_falls hn (by omega) h1 h2
theorem lossI_rises (hn : 2 ≤ n) (hs : 2 ≤ s) (h1 : hiI n s < m) (h2 : m < n) : lossI n s (m - 1) ≤ lossI n s m := by
  rw [hiI_eq hs] at h1
  rw [lossI_eq (by omega), lossI_eq (by omega)]
  exact loss_rises hn (by omega) h1 h2
theorem rcI_le (hs : 0 ≤ s) (hs2 : s ≤ 110) (h : -1 ≤ r) (hr : r ≤ 2 ^ 110) : (rcI s r).natAbs < 2 ^ 12300 := by
  have h0 := rc_nn s.toNat r
  have h1 := rc_le h hr s.toNat (by omega)
  unfold rcI
  have h2 : (2 : Int) ^ (111 * s.toNat) ≤ 2 ^ 12210 := by
    have := Nat.pow_le_pow_right (n := 2) (by decide) (show 111 * s.toNat ≤ 12210 by omega)
    exact_mod_cast this
  have h3 : ((rc s.toNat r).natAbs : Int) ≤ 2 ^ 12210 := by
    rw [Int.natAbs_of_nonneg h0]; exact Int.le_trans h1 h2
  have h4 : (2 : Nat) ^ 12210 < 2 ^ 12300 := Nat.pow_lt_pow_right (by decide) (by decide)
  have h5 : (rc s.toNat r).natAbs ≤ 2 ^ 12210 := by exact_mod_cast h3
  omega
end
end Bm
namespace Bs
open PySem PySem.Spec L2 Bm
open PyProof.Rows hiding St
/-! ### promises -/
def sp_is_int (_ : PySem.W.Frag) : Sp := fun vs H Q _ => ∃ i, vs = [.int i] ∧ Q (.bl true) H
def sp_is_whole (_ : PySem.W.Frag) : Sp := fun vs H Q _ => ∃ v lo hi, vs = [.int v, .int lo, .int hi] ∧ Q (.bl (decide (lo ≤ v ∧ v ≤ hi))) H
def sp_require_length (_ : PySem.W.Frag) : Sp := fun vs H Q _ => ∃ n, vs = [.int n] ∧ 1 ≤ n ∧ n ≤ 1000000000000000000000000000000 ∧ Q .non H
def sp_require_slots (_ : PySem.W.Frag) : Sp := fun vs H Q _ => ∃ s, vs = [.int s] ∧ 1 ≤ s ∧ s ≤ 100 ∧ Q .non H
def sp_require_task (_ : PySem.W.Frag) : Sp := fun vs H Q _ => ∃ n s, vs = [.int n, .int s] ∧ 1 ≤ n ∧ n ≤ 1000000000000000000000000000000 ∧ 1 ≤ s ∧ s ≤ 100 ∧ Q .non H
def sp_reach_of (_ : PySem.W.Frag) : Sp := fun vs H Q _ => ∃ s r, vs = [.int s, .int r] ∧ 0 ≤ s ∧ s ≤ 102 ∧ -1 ≤ r ∧ r ≤ 2 ^ 110 ∧ Q (.int (rcI s r)) H
/-- an answer that stands beside new objects -/
def sp_rounds_of (_ : PySem.W.Frag) : Sp := fun vs H Q _ => ∃ n s, vs = [.int n, .int s] ∧ 1 ≤ n ∧ n ≤ 2 ^ 100 ∧ 1 ≤ s ∧ s ≤ 101 ∧ ∀ H', Same H H' → Q (.int (rhoI n s)) H'
def sp_steps_with (_ : PySem.W.Frag) : Sp := fun vs H Q _ => ∃ n s r, vs = [.int n, .int s, .int r] ∧ 1 ≤ n ∧ n ≤ 2 ^ 100 ∧ 1 ≤ s ∧ s ≤ 101 ∧ 0 ≤ r ∧ r ≤ 2 ^ 110 ∧ Q (.int (ggI n s r)) H
def sp_least_of (_ : PySem.W.Frag) : Sp := fun vs H Q _ => ∃ n s, vs = [.int n, .int s] ∧ 1 ≤ n ∧ n ≤ 2 ^ 100 ∧ 1 ≤ s ∧ s ≤ 101 ∧ ∀ H', Same H H' → Q (.int (ttI n s)) H'
def sp_splits_with (_ : PySem.W.Frag) : Sp := fun vs H Q _ => ∃ n s, vs = [.int n, .int s, .int (rhoI n s)] ∧ 2 ≤ n ∧ n ≤ 2 ^ 100 ∧ 2 ≤ s ∧ s ≤ 100 ∧ ∀ p H', Same H H' → H p = none → H' p = some (.tup [.int (loI n s), .int (hiI n s)]) → Q (.ref p) H'
def sp_best_splits (_ : PySem.W.Frag) : Sp := fun vs H Q _ => ∃ n s, vs = [.int n, .int s] ∧ 1 ≤ n ∧ n ≤ 1000000000000000000000000000000 ∧ 1 ≤ s ∧ s ≤ 100 ∧
  ((n = 1 ∨ s = 1) → ∀ H', Same H H' → Q .non H') ∧ (2 ≤ n → 2 ≤ s → ∀ p H', Same H H' → H p = none → H' p = some (.tup [.int (loI n s), .int (hiI n s)]) → Q (.ref p) H')
def sp_split_loss (_ : PySem.W.Frag) : Sp := fun vs H Q _ => ∃ n s m, vs = [.int n, .int s, .int m] ∧ n ≤ 1000000000000000000000000000000 ∧ 2 ≤ s ∧ s ≤ 100 ∧ 1 ≤ m ∧ m < n ∧ ∀ H', Same H H' → Q (.int (lossI n s m)) H'
/-- the draws of a cell: a list of three ints -/
def Bag (H : Hp) (a : Addr) : Prop := ∃ x y z : Int, H a = some (.lst [.int x, .int y, .int z])
def sp_l_bag (_ : PySem.W.Frag) : Sp := fun vs H Q _ => ∃ c, vs = [.int c] ∧ ∀ p H', Same H H' → H p = none → Bag H' p → Q (.ref p) H'
def sp_l_pick (_ : PySem.W.Frag) : Sp := fun vs H Q _ => ∃ a m, vs = [.ref a, .int m] ∧ 1 ≤ m ∧ m < 2 ^ 200 ∧ Bag H a ∧ ∀ r H', 0 ≤ r → r < m → But a H H' → Bag H' a → Q (.int r) H'
def sp_l_reach (_ : PySem.W.Frag) : Sp := fun vs H Q _ => ∃ s r, vs = [.int s, .int r] ∧ 0 ≤ s ∧ s ≤ 102 ∧ -1 ≤ r ∧ r ≤ 2 ^ 110 ∧ Q (.int (rcI s r)) H
def sp_l_rounds (_ : PySem.W.Frag) : Sp := fun vs H Q _ => ∃ n s, vs = [.int n, .int s] ∧ 1 ≤ n ∧ n ≤ 2 ^ 100 ∧ 1 ≤ s ∧ s ≤ 101 ∧ ∀ H', Same H H' → Q (.int (rhoI n s)) H'
def sp_l_least (_ : PySem.W.Frag) : Sp := fun vs H Q _ => ∃ n s, vs = [.int n, .int s] ∧ 1 ≤ n ∧ n ≤ 2 ^ 100 ∧ 1 ≤ s ∧ s ≤ 101 ∧ ∀ H', Same H H' → Q (.int (ttI n s)) H'
def sp_l_task (_ : PySem.W.Frag) : Sp := fun vs H Q _ => ∃ a, vs = [.ref a] ∧ Bag H a ∧ ∀ n s p H', 1 ≤ n → n ≤ 1000000000000000000000000000000 → 1 ≤ s → s ≤ 100 → But a H H' → Bag H' a → H p = none → H' p = some (.tup [.int n, .int s]) → Q (.ref p) H'
def sp_l_loss (_ : PySem.W.Frag) : Sp := fun vs H Q _ => ∃ n s m, vs = [.int n, .int s, .int m] ∧ n ≤ 1000000000000000000000000000000 ∧ 2 ≤ s ∧ s ≤ 100 ∧ 1 ≤ m ∧ m < n ∧ ∀ H', Same H H' → Q (.int (lossI n s m)) H'
def sp_l_right (_ : PySem.W.Frag) : Sp := fun vs H Q _ => ∃ a, vs = [.ref a] ∧ Bag H a ∧ ∀ H', But a H H' → Bag H' a → Q (.bl true) H'
def sp_law_k11 (K : PySem.W.Frag) : Sp := fun vs H Q _ => ∃ (a : Addr) (ns : List Int), vs = [.ref a] ∧ SqL K H a (ns.map V.int) ∧ ns.length ≤ 63 ∧ ∀ H', Q (.bl true) H'

theorem len_is_int (K : PySem.W.Frag) {vs : List V} {H : Hp} {Q : VK} {E : XK} (h : sp_is_int K vs H Q E) : vs.length = 1 := by
  obtain ⟨_, rfl, _⟩ := h
  rfl
theorem len_is_whole (K : PySem.W.Frag) {vs : List V} {H : Hp} {Q : VK} {E : XK} (h : sp_is_whole K vs H Q E) : vs.length = 3 := by
  obtain ⟨_, _, _, rfl, _⟩ := h
  rfl
theorem len_require_length (K : PySem.W.Frag) {vs : List V} {H : Hp} {Q : VK} {E : XK} (h : sp_require_length K vs H Q E) : vs.length = 1 := by
  obtain ⟨_, rfl, _⟩ := h
  rfl
theorem len_require_slots (K : PySem.W.Frag) {vs : List V} {H : Hp} {Q : VK} {E : XK} (h : sp_require_slots K vs H Q E) : vs.length = 1 := by
  obtain ⟨_, rfl, _⟩ := h
  rfl
theorem len_require_task (K : PySem.W.Frag) {vs : List V} {H : Hp} {Q : VK} {E : XK} (h : sp_require_task K vs H Q E) : vs.length = 2 := by
  obtain ⟨_, _, rfl, _⟩ := h
  rfl
theorem len_reach_of (K : PySem.W.Frag) {vs : List V} {H : Hp} {Q : VK} {E : XK} (h : sp_reach_of K vs H Q E) : vs.length = 2 := by
  obtain ⟨_, _, rfl, _⟩ := h
  rfl
theorem len_rounds_of (K : PySem.W.Frag) {vs : List V} {H : Hp} {Q : VK} {E : XK} (h : sp_rounds_of K vs H Q E) : vs.length = 2 := by
  obtain ⟨_, _, rfl, _⟩ := h
  rfl
theorem len_steps_with (K : PySem.W.Frag) {vs : List V} {H : Hp} {Q : VK} {E : XK} (h : sp_steps_with K vs H Q E) : vs.length = 3 := by
  obtain ⟨_, _, _, rfl, _⟩ := h
  rfl
theorem len_least_of (K : PySem.W.Frag) {vs : List V} {H : Hp} {Q : VK} {E : XK} (h : sp_least_of K vs H Q E) : vs.length = 2 := by
  obtain ⟨_, _, rfl, _⟩ := h
  rfl
theorem len_splits_with (K : PySem.W.Frag) {vs : List V} {H : Hp} {Q : VK} {E : XK} (h : sp_splits_with K vs H Q E) : vs.length = 3 := by
  obtain ⟨_, _, rfl, _⟩ := h
  rfl
theorem len_best_splits (K : PySem.W.Frag) {vs : List V} {H : Hp} {Q : VK} {E : XK} (h : sp_best_splits K vs H Q E) : vs.length = 2 := by
  obtain ⟨_, _, rfl, _⟩ := h
  rfl
theorem len_split_loss (K : PySem.W.Frag) {vs : List V} {H : Hp} {Q : VK} {E : XK} (h : sp_split_loss K vs H Q E) : vs.length = 3 := by
  obtain ⟨_, _, _, rfl, _⟩ := h
  rfl
theorem len_l_bag (K : PySem.W.Frag) {vs : List V} {H : Hp} {Q : VK} {E : XK} (h : sp_l_bag K vs H Q E) : vs.length = 1 := by
  obtain ⟨_, rfl, _⟩ := h
  rfl
theorem len_l_pick (K : PySem.W.Frag) {vs : List V} {H : Hp} {Q : VK} {E : XK} (h : sp_l_pick K vs H Q E) : vs.length = 2 := by
  obtain ⟨_, _, rfl, _⟩ := h
  rfl
theorem len_l_reach (K : PySem.W.Frag) {vs : List V} {H : Hp} {Q : VK} {E : XK} (h : sp_l_reach K vs H Q E) : vs.length = 2 := by
  obtain ⟨_, _, rfl, _⟩ := h
  rfl
theorem len_l_rounds (K : PySem.W.Frag) {vs : List V} {H : Hp} {Q : VK} {E : XK} (h : sp_l_rounds K vs H Q E) : vs.length = 2 := by
  obtain ⟨_, _, rfl, _⟩ := h
  rfl
theorem len_l_least (K : PySem.W.Frag) {vs : List V} {H : Hp} {Q : VK} {E : XK} (h : sp_l_least K vs H Q E) : vs.length = 2 := by
  obtain ⟨_, _, rfl, _⟩ := h
  rfl
theorem len_l_task (K : PySem.W.Frag) {vs : List V} {H : Hp} {Q : VK} {E : XK} (h : sp_l_task K vs H Q E) : vs.length = 1 := by
  obtain ⟨_, rfl, _⟩ := h
  rfl
theorem len_l_loss (K : PySem.W.Frag) {vs : List V} {H : Hp} {Q : VK} {E : XK} (h : sp_l_loss K vs H Q E) : vs.length = 3 := by
  obtain ⟨_, _, _, rfl, _⟩ := h
  rfl
theorem len_l_right (K : PySem.W.Frag) {vs : List V} {H : Hp} {Q : VK} {E : XK} (h : sp_l_right K vs H Q E) : vs.length = 1 := by
  obtain ⟨_, rfl, _⟩ := h
  rfl
theorem len_law_k11 (K : PySem.W.Frag) {vs : List V} {H : Hp} {Q : VK} {E : XK} (h : sp_law_k11 K vs H Q E) : vs.length = 1 := by
  obtain ⟨_, _, rfl, _⟩ := h
  rfl

/-- is_int: slots 0 value -/
abbrev n_is_int : List Str := ["value"]
def t_is_int (K : PySem.W.Frag) : TS :=
  (tRet (tAndV (tCB (rIsi K) (tCons (tVar 0) (tCons (tC (.ty "int")) tNil))) (tNotV (tCB (rIsi K) (tCons (tVar 0) (tCons (tC (.ty "bool")) tNil))))))
/-- is_whole: slots 0 value, 1 low, 2 high -/
abbrev n_is_whole : List Str := ["value", "low", "high"]
def t_is_whole (K : PySem.W.Frag) : TS :=
  (tRet (tAndV (tCall (sp_is_int K) [] E0 (tCons (tVar 0) tNil)) (tChain oLe oLe (tVar 1) (tVar 0) (tVar 2))))
/-- require_length: slots 0 value -/
abbrev n_require_length : List Str := ["value"]
def t_require_length (K : PySem.W.Frag) : TS :=
  (tIfS (tNot (tB (tCall (sp_is_whole K) [] E0 (tCons (tVar 0) (tCons (tC (.int 1)) (tCons (tC (.int 1000000000000000000000000000000)) tNil)))))) tNever tNext)
/-- require_slots: slots 0 value -/
abbrev n_require_slots : List Str := ["value"]
def t_require_slots (K : PySem.W.Frag) : TS :=
  (tIfS (tNot (tB (tCall (sp_is_whole K) [] E0 (tCons (tVar 0) (tCons (tC (.int 1)) (tCons (tC (.int 100)) tNil)))))) tNever tNext)
/-- require_task: slots 0 length, 1 slots -/
abbrev n_require_task : List Str := ["length", "slots"]
def t_require_task (K : PySem.W.Frag) : TS :=
  (tSeq (tDrop (tCall (sp_require_length K) [] E0 (tCons (tVar 0) tNil)))
  (tDrop (tCall (sp_require_slots K) [] E0 (tCons (tVar 1) tNil))))
/-- reach_of: slots 0 slots, 1 rounds, 2 found, 3 turn -/
abbrev n_reach_of : List Str := ["slots", "rounds", "found", "turn"]
def t_reach_of (K : PySem.W.Frag) : TS :=
  (tSeq (tAsg (tC (.int 1)) (gName 2))
  (tSeq (tFor (iRng2 (tCons (tC (.int 1)) (tCons (tOp oAdd (tVar 0) (tC (.int 1))) tNil))) (gName 3)
  (tAsg (tOp oDivP (tOp oMulA (tVar 2) (tOp oAdd (tVar 1) (tVar 3))) (tVar 3)) (gName 2)))
  (tRet (tVar 2))))
/-- rounds_of: slots 0 length, 1 slots, 2 low, 3 high, 4 middle -/
abbrev n_rounds_of : List Str := ["length", "slots", "low", "high", "middle"]
def t_rounds_of (K : PySem.W.Frag) : TS :=
  (tSeq (tAsg (tTup (tCons (tUn uNeg (tC (.int 1))) (tCons (tC (.int 1)) tNil))) (gTup K 2 (gCons (gName 2) (gCons (gName 3) gNil))))
  (tSeq (tWhile (tTest (tOp oLt (tCall (sp_reach_of K) [] E0 (tCons (tVar 1) (tCons (tVar 3) tNil))) (tVar 0)))
  (tPar 2 3 (tCons (tVar 3) (tCons (tOp oMulA (tC (.int 2)) (tVar 3)) tNil))))
  (tSeq (tWhile (tTest (tOp oGt (tOp oSub (tVar 3) (tVar 2)) (tC (.int 1))))
  (tSeq (tAsg (tOp oDivP (tOp oAdd (tVar 2) (tVar 3)) (tC (.int 2))) (gName 4))
  (tIfS (tTest (tOp oLt (tCall (sp_reach_of K) [] E0 (tCons (tVar 1) (tCons (tVar 4) tNil))) (tVar 0))) (tAsg (tVar 4) (gName 2)) (tAsg (tVar 4) (gName 3)))))
  (tRet (tVar 3)))))
/-- steps_with: slots 0 length, 1 slots, 2 rounds -/
abbrev n_steps_with : List Str := ["length", "slots", "rounds"]
def t_steps_with (K : PySem.W.Frag) : TS :=
  (tRet (tOp oSub (tOp oMulA (tVar 2) (tVar 0)) (tCall (sp_reach_of K) [] E0 (tCons (tOp oAdd (tVar 1) (tC (.int 1))) (tCons (tOp oSub (tVar 2) (tC (.int 1))) tNil)))))
/-- least_of: slots 0 length, 1 slots -/
abbrev n_least_of : List Str := ["length", "slots"]
def t_least_of (K : PySem.W.Frag) : TS :=
  (tRet (tCall (sp_steps_with K) [] E0 (tCons (tVar 0) (tCons (tVar 1) (tCons (tCall (sp_rounds_of K) [] E0 (tCons (tVar 0) (tCons (tVar 1) tNil))) tNil)))))
/-- splits_with: slots 0 length, 1 slots, 2 rounds, 3 least -/
abbrev n_splits_with : List Str := ["length", "slots", "rounds", "least"]
def t_splits_with (K : PySem.W.Frag) : TS :=
  (tSeq (tAsg (tCB oMax3 (tCons (tC (.int 1)) (tCons (tIf (tTest (tOp oGt (tVar 2) (tC (.int 1)))) (tCall (sp_reach_of K) [] E0 (tCons (tVar 1) (tCons (tOp oSub (tVar 2) (tC (.int 2))) tNil))) (tC (.int 0))) (tCons (tOp oSub (tVar 0) (tCall (sp_reach_of K) [] E0 (tCons (tOp oSub (tVar 1) (tC (.int 1))) (tCons (tVar 2) tNil)))) tNil)))) (gName 3))
  (tRet (tTup (tCons (tVar 3) (tCons (tCB oMin3 (tCons (tOp oSub (tVar 0) (tC (.int 1))) (tCons (tCall (sp_reach_of K) [] E0 (tCons (tVar 1) (tCons (tOp oSub (tVar 2) (tC (.int 1))) tNil))) (tCons (tOp oSub (tVar 0) (tCall (sp_reach_of K) [] E0 (tCons (tOp oSub (tVar 1) (tC (.int 1))) (tCons (tOp oSub (tVar 2) (tC (.int 1))) tNil)))) tNil)))) tNil)))))
/-- best_splits: slots 0 length, 1 slots -/
abbrev n_best_splits : List Str := ["length", "slots"]
def t_best_splits (K : PySem.W.Frag) : TS :=
  (tSeq (tDrop (tCall (sp_require_task K) [] E0 (tCons (tVar 0) (tCons (tVar 1) tNil))))
  (tSeq (tIfS (tOr (tTest (tOp rEq (tVar 0) (tC (.int 1)))) (tTest (tOp rEq (tVar 1) (tC (.int 1))))) (tRet (tC .non)) tNext)
  (tRet (tCall (sp_splits_with K) [] E0 (tCons (tVar 0) (tCons (tVar 1) (tCons (tCall (sp_rounds_of K) [] E0 (tCons (tVar 0) (tCons (tVar 1) tNil))) tNil)))))))
/-- split_loss: slots 0 length, 1 slots, 2 state, 3 found -/
abbrev n_split_loss : List Str := ["length", "slots", "state", "found"]
def t_split_loss (K : PySem.W.Frag) : TS :=
  (tSeq (tDrop (tCall (sp_require_length K) [] E0 (tCons (tVar 0) tNil)))
  (tSeq (tDrop (tCall (sp_require_slots K) [] E0 (tCons (tVar 1) tNil)))
  (tSeq (tIfS (tTest (tOp rEq (tVar 1) (tC (.int 1)))) tNever tNext)
  (tSeq (tIfS (tNot (tB (tCall (sp_is_whole K) [] E0 (tCons (tVar 2) (tCons (tC (.int 1)) (tCons (tOp oSub (tVar 0) (tC (.int 1))) tNil)))))) tNever tNext)
  (tSeq (tAsg (tOp oAdd (tOp oAdd (tVar 2) (tCall (sp_least_of K) [] E0 (tCons (tOp oSub (tVar 0) (tVar 2)) (tCons (tOp oSub (tVar 1) (tC (.int 1))) tNil)))) (tCall (sp_least_of K) [] E0 (tCons (tVar 2) (tCons (tVar 1) tNil)))) (gName 3))
  (tRet (tOp oSub (tVar 3) (tCall (sp_least_of K) [] E0 (tCons (tVar 0) (tCons (tVar 1) tNil))))))))))
/-- bag: slots 0 l_cell -/
abbrev n_l_bag : List Str := ["_law_cell"]
def t_l_bag (K : PySem.W.Frag) : TS :=
  (tRet (tLst (tCons (tCB oMax2 (tCons (tC (.int 0)) (tCons (tOp oSub (tVar 0) (tOp oPowA (tC (.int 10)) (tC (.int 18)))) tNil))) (tCons (tVar 0) (tCons (tC (.int 0)) tNil)))))
/-- pick: slots 0 l_bag_here, 1 l_many, 2 l_told, 3 l_seed, 4 l_turn, 5 l_first, 6 l_second, 7 l_drawn -/
abbrev n_l_pick : List Str := ["_law_bag_here", "_law_many", "_law_told", "_law_seed", "_law_turn", "_law_first", "_law_second", "_law_drawn"]
def t_l_pick (K : PySem.W.Frag) : TS :=
  (tSeq (tAsg (tOp oAdd (tOp (rIxL K) (tVar 0) (tC (.int 2))) (tC (.int 1))) (gSub (tVar 0) (tC (.int 2)) rSetL))
  (tSeq (tIfS (tTest (tOp oGt (tOp (rIxL K) (tVar 0) (tC (.int 0))) (tC (.int 0)))) (tSeq (tAsg (tOp oModP (tCB oInt (tCons (tOp (rIxL K) (tVar 0) (tC (.int 0))) tNil)) (tVar 1)) (gName 2))
  (tSeq (tAsg (tOp oDivP (tCB oInt (tCons (tOp (rIxL K) (tVar 0) (tC (.int 0))) tNil)) (tVar 1)) (gSub (tVar 0) (tC (.int 0)) rSetL))
  (tRet (tVar 2)))) tNext)
  (tSeq (tPar 3 4 (tCons (tCB oInt (tCons (tOp (rIxL K) (tVar 0) (tC (.int 1))) tNil)) (tCons (tCB oInt (tCons (tOp (rIxL K) (tVar 0) (tC (.int 2))) tNil)) tNil)))
  (tSeq (tAsg (tOp oModP (tCB oInt (tCons (tOp oAdd (tOp oAdd (tOp oMulA (tOp oModP (tVar 3) (tC (.int 2147483629))) (tC (.int 48271))) (tOp oMulA (tVar 4) (tC (.int 69621)))) (tC (.int 12345))) tNil)) (tC (.int 2147483647))) (gName 5))
  (tSeq (tAsg (tOp oModP (tCB oInt (tCons (tOp oAdd (tOp oMulA (tVar 5) (tVar 5)) (tOp oMulA (tVar 4) (tC (.int 40692)))) tNil)) (tC (.int 2147483587))) (gName 6))
  (tSeq (tAsg (tOp oDivP (tCB oInt (tCons (tOp oAdd (tOp oMulA (tVar 5) (tC (.int 2147483587))) (tVar 6)) tNil)) (tC (.int 32))) (gName 7))
  (tSeq (tIfS (tTest (tOp oGt (tVar 1) (tOp oPowA (tC (.int 10)) (tC (.int 15))))) (tAsg (tOp oAdd (tOp oPowA (tVar 7) (tC (.int 8))) (tVar 6)) (gName 7)) tNext)
  (tRet (tOp oModP (tCB oInt (tCons (tVar 7) tNil)) (tVar 1))))))))))
/-- reach: slots 0 l_slots, 1 l_rounds_here, 2 l_found, 3 l_turn -/
abbrev n_l_reach : List Str := ["_law_slots", "_law_rounds_here", "_law_found", "_law_turn"]
def t_l_reach (K : PySem.W.Frag) : TS :=
  (tSeq (tAsg (tC (.int 1)) (gName 2))
  (tSeq (tFor (iRng1 (tCons (tVar 0) tNil)) (gName 3)
  (tAsg (tOp oDivP (tOp oMulA (tVar 2) (tOp oAdd (tOp oAdd (tVar 1) (tVar 3)) (tC (.int 1)))) (tOp oAdd (tVar 3) (tC (.int 1)))) (gName 2)))
  (tRet (tVar 2))))
/-- rounds: slots 0 l_length, 1 l_slots, 2 l_low, 3 l_high, 4 l_middle -/
abbrev n_l_rounds : List Str := ["_law_length", "_law_slots", "_law_low", "_law_high", "_law_middle"]
def t_l_rounds (K : PySem.W.Frag) : TS :=
  (tSeq (tAsg (tTup (tCons (tUn uNeg (tC (.int 1))) (tCons (tC (.int 1)) tNil))) (gTup K 2 (gCons (gName 2) (gCons (gName 3) gNil))))
  (tSeq (tWhile (tTest (tOp oLt (tCall (sp_l_reach K) [] E0 (tCons (tVar 1) (tCons (tVar 3) tNil))) (tVar 0)))
  (tPar 2 3 (tCons (tVar 3) (tCons (tOp oMulA (tC (.int 2)) (tVar 3)) tNil))))
  (tSeq (tWhile (tTest (tOp oGt (tOp oSub (tVar 3) (tVar 2)) (tC (.int 1))))
  (tSeq (tAsg (tOp oDivP (tOp oAdd (tVar 2) (tVar 3)) (tC (.int 2))) (gName 4))
  (tIfS (tTest (tOp oLt (tCall (sp_l_reach K) [] E0 (tCons (tVar 1) (tCons (tVar 4) tNil))) (tVar 0))) (tAsg (tVar 4) (gName 2)) (tAsg (tVar 4) (gName 3)))))
  (tRet (tVar 3)))))
/-- least: slots 0 l_length, 1 l_slots, 2 l_times -/
abbrev n_l_least : List Str := ["_law_length", "_law_slots", "_law_times"]
def t_l_least (K : PySem.W.Frag) : TS :=
  (tSeq (tAsg (tCall (sp_l_rounds K) [] E0 (tCons (tVar 0) (tCons (tVar 1) tNil))) (gName 2))
  (tRet (tOp oSub (tOp oMulA (tVar 2) (tVar 0)) (tCall (sp_l_reach K) [] E0 (tCons (tOp oAdd (tVar 1) (tC (.int 1))) (tCons (tOp oSub (tVar 2) (tC (.int 1))) tNil))))))
/-- task: slots 0 l_bag_here, 1 l_slots, 2 l_length -/
abbrev n_l_task : List Str := ["_law_bag_here", "_law_slots", "_law_length"]
def t_l_task (K : PySem.W.Frag) : TS :=
  (tSeq (tAsg (tOp oAdd (tC (.int 1)) (tCall (sp_l_pick K) [] E0 (tCons (tVar 0) (tCons (tOp (rIxL K) (tLst (tCons (tC (.int 5)) (tCons (tC (.int 100)) tNil))) (tCall (sp_l_pick K) [] E0 (tCons (tVar 0) (tCons (tC (.int 2)) tNil)))) tNil)))) (gName 1))
  (tSeq (tAsg (tOp oAdd (tC (.int 1)) (tCall (sp_l_pick K) [] E0 (tCons (tVar 0) (tCons (tOp (rIxL K) (tLst (tCons (tC (.int 90)) (tCons (tOp oPowA (tC (.int 10)) (tC (.int 12))) (tCons (tOp oPowA (tC (.int 10)) (tC (.int 30))) tNil)))) (tCall (sp_l_pick K) [] E0 (tCons (tVar 0) (tCons (tC (.int 3)) tNil)))) tNil)))) (gName 2))
  (tSeq (tIfS (tTest (tOp rEq (tCall (sp_l_pick K) [] E0 (tCons (tVar 0) (tCons (tC (.int 2)) tNil))) (tC (.int 0)))) (tAsg (tOp oSub (tOp oAdd (tCall (sp_l_reach K) [] E0 (tCons (tVar 1) (tCons (tCall (sp_l_pick K) [] E0 (tCons (tVar 0) (tCons (tC (.int 40)) tNil))) tNil))) (tCall (sp_l_pick K) [] E0 (tCons (tVar 0) (tCons (tC (.int 3)) tNil)))) (tC (.int 1))) (gName 2)) tNext)
  (tRet (tTup (tCons (tCB oMin2 (tCons (tOp oPowA (tC (.int 10)) (tC (.int 30))) (tCons (tCB oMax2 (tCons (tC (.int 1)) (tCons (tVar 2) tNil))) tNil))) (tCons (tVar 1) tNil)))))))
/-- loss: slots 0 l_length, 1 l_slots, 2 l_m, 3 l_found -/
abbrev n_l_loss : List Str := ["_law_length", "_law_slots", "_law_m", "_law_found"]
def t_l_loss (K : PySem.W.Frag) : TS :=
  (tSeq (tAsg (tOp oAdd (tOp oAdd (tVar 2) (tCall (sp_l_least K) [] E0 (tCons (tOp oSub (tVar 0) (tVar 2)) (tCons (tOp oSub (tVar 1) (tC (.int 1))) tNil)))) (tCall (sp_l_least K) [] E0 (tCons (tVar 2) (tCons (tVar 1) tNil)))) (gName 3))
  (tRet (tOp oSub (tVar 3) (tCall (sp_l_least K) [] E0 (tCons (tVar 0) (tCons (tVar 1) tNil))))))
/-- right: slots 0 l_bag_here, 1 l_length, 2 l_slots, 3 l_least_here, 4 l_greatest, 5 l_asked, 6 l_m, 7 l_told, 8 l_near, 9 l_turn -/
abbrev n_l_right : List Str := ["_law_bag_here", "_law_length", "_law_slots", "_law_least_here", "_law_greatest", "_law_asked", "_law_m", "_law_told", "_law_near", "_law_turn"]
def t_l_right (K : PySem.W.Frag) : TS :=
  (tSeq (tAsg (tCall (sp_l_task K) [] E0 (tCons (tVar 0) tNil)) (gTup K 2 (gCons (gName 1) (gCons (gName 2) gNil))))
  (tSeq (tIfS (tOr (tTest (tOp rEq (tVar 1) (tC (.int 1)))) (tTest (tOp rEq (tVar 2) (tC (.int 1))))) (tRet (tOp oIsN (tCall (sp_best_splits K) [] E0 (tCons (tVar 1) (tCons (tVar 2) tNil))) (tC .non))) tNext)
  (tSeq (tAsg (tCall (sp_best_splits K) [] E0 (tCons (tVar 1) (tCons (tVar 2) tNil))) (gTup K 2 (gCons (gName 3) (gCons (gName 4) gNil))))
  (tSeq (tIfS (tNot (tTest (tChain3 oLe oLe oLt (tC (.int 1)) (tVar 3) (tVar 4) (tVar 1)))) (tRet (tC (.bl false))) tNext)
  (tSeq (tAsg (tLst (tCons (tVar 3) (tCons (tVar 4) (tCons (tOp oAdd (tVar 3) (tCall (sp_l_pick K) [] E0 (tCons (tVar 0) (tCons (tOp oAdd (tOp oSub (tVar 4) (tVar 3)) (tC (.int 1))) tNil)))) tNil)))) (gName 5))
  (tSeq (tAsg (tOp rCat (tVar 5) (tLc (iRng1 (tCons (tC (.int 3)) tNil)) (gName 9) tYes (tOp oAdd (tC (.int 1)) (tCall (sp_l_pick K) [] E0 (tCons (tVar 0) (tCons (tOp oSub (tVar 1) (tC (.int 1))) tNil)))) [9])) (gName 5))
  (tSeq (tFor (iList K (tOp rCat (tVar 5) (tLc (iTup K (tTup (tCons (tOp oSub (tVar 3) (tC (.int 1))) (tCons (tOp oAdd (tVar 4) (tC (.int 1))) tNil)))) (gName 6) (tTest (tChain oLt oLt (tC (.int 0)) (tVar 6) (tVar 1))) (tVar 6) [6]))) (gName 6)
  (tSeq (tAsg (tCall (sp_split_loss K) [] E0 (tCons (tVar 1) (tCons (tVar 2) (tCons (tVar 6) tNil)))) (gName 7))
  (tSeq (tIfS (tOr (tTest (tOp rNe (tCB oRepr (tCons (tVar 7) tNil)) (tCB oRepr (tCons (tCall (sp_l_loss K) [] E0 (tCons (tVar 1) (tCons (tVar 2) (tCons (tVar 6) tNil)))) tNil)))) (tTest (tOp rNe (tOp rEq (tVar 7) (tC (.int 0))) (tChain oLe oLe (tVar 3) (tVar 6) (tVar 4))))) (tRet (tC (.bl false))) tNext)
  (tSeq (tAsg (tOp oSub (tOp oAdd (tVar 6) (tCB oInt (tCons (tOp oLt (tVar 6) (tVar 3)) tNil))) (tCB oInt (tCons (tOp oGt (tVar 6) (tVar 4)) tNil))) (gName 8))
  (tIfS (tTest (tOp oGt (tCall (sp_split_loss K) [] E0 (tCons (tVar 1) (tCons (tVar 2) (tCons (tVar 8) tNil)))) (tVar 7))) (tRet (tC (.bl false))) tNext)))))
  (tRet (tC (.bl true))))))))))
/-- law: slots 0 l_script, 1 l_cell, 2 l_bag_here, 3 l_turn -/
abbrev n_law_k11 : List Str := ["_law_script", "_law_cell", "_law_bag_here", "_law_turn"]
def t_law_k11 (K : PySem.W.Frag) : TS :=
  (tSeq (tFor (iList K (tOp rCat (tSl (rSlL K) (tVar 0) tNoPart (tPart (tC (.int 6)))) (tLst (tCons (tC (.int 0)) tNil)))) (gName 1)
  (tSeq (tAsg (tCall (sp_l_bag K) [] E0 (tCons (tVar 1) tNil)) (gName 2))
  (tFor (iRng1 (tCons (tC (.int 3)) tNil)) (gName 3)
  (tIfS (tNot (tB (tCall (sp_l_right K) [] E0 (tCons (tVar 2) tNil)))) (tRet (tC (.bl false))) tNext))))
  (tRet (tAndV (tOp oIsN (tCall (sp_best_splits K) [] E0 (tCons (tOp oPowA (tC (.int 10)) (tC (.int 30))) (tCons (tC (.int 1)) tNil))) (tC .non)) (tOp oGt (tCall (sp_split_loss K) [] E0 (tCons (tOp oPowA (tC (.int 10)) (tC (.int 30))) (tCons (tC (.int 100)) (tCons (tC (.int 1)) tNil)))) (tC (.int 0))))))

end Bs

namespace Bs
open PySem PySem.Spec L2 Bm
open PyProof.Rows hiding St
/-! ### comprehensions, lists of ints -/
section
variable {D : Ends} {σ : L2.St} {H : Hp} {Q : VK} {K : PySem.W.Frag}
theorem r_lc {wi : TI} {g : TG} {tt : TT} {te : TE} {vs : List Nat} (h : wi σ H fun J H1 => ∀ D, H1 D = none → ∃ W : Nat → Nat → Hp → Prop, (∃ m, W 0 m (upd H1 D (.lst []))) ∧ ∀ i m H, W i m H →
  (J.stop i H ∧ Q (.ref D) H) ∨ (J.go i H ∧ ∃ Nx : Hp → Prop, (∀ H', Nx H' → ∃ m', m' < m ∧ W (i + 1) m' H') ∧ ∀ x H', J.yld i H x H' → g x (wipe σ vs) H' fun σ2 H2 => wipe σ2 vs = wipe σ vs ∧ tt σ2 H2 fun b H3 =>
    if b = true then te σ2 H3 fun y H4 => ∃ acc, H4 D = some (.lst acc) ∧ acc.length < sizeLine ∧ Nx (upd H4 D (.lst (acc ++ [y]))) else Nx H3)) : tLc wi g tt te vs σ H Q := h
theorem r_yesT {Q : Bool → Hp → Prop} (h : Q true H) : tYes σ H Q := h
theorem r_same {p : Prop} {x y : L2.St} (e : x = y) (h : p) : x = y ∧ p := ⟨e, h⟩
theorem r_acc {p : Addr} {acc : List V} {v : V} {N : Hp → Prop} (h1 : H p = some (.lst acc)) (h2 : acc.length < 100000) (h3 : N (upd H p (.lst (acc ++ [v])))) : ∃ acc, H p = some (.lst acc) ∧ acc.length < sizeLine ∧ N (upd H p (.lst (acc ++ [v]))) := ⟨acc, h1, sz_lt h2, h3⟩
theorem r_iL {te : TE} {R : It → Hp → Prop} (h : te σ H fun x H1 => ∃ a, x = .ref a ∧ (∃ xs, SqL K H1 a xs) ∧ R (Itl K a) H1) : iList K te σ H R := h
theorem r_iT {te : TE} {R : It → Hp → Prop} (h : te σ H fun x H1 => ∃ a, x = .ref a ∧ (∃ xs, SqT K H1 a xs) ∧ R (Itt K a) H1) : iTup K te σ H R := h
theorem r_refL {p : Addr} {xs : List V} {R : Addr → Prop} (h1 : SqL K H p xs) (h : R p) : ∃ a, V.ref p = .ref a ∧ (∃ xs, SqL K H a xs) ∧ R a := ⟨p, rfl, ⟨xs, h1⟩, h⟩
theorem r_refT {p : Addr} {xs : List V} {R : Addr → Prop} (h1 : SqT K H p xs) (h : R p) : ∃ a, V.ref p = .ref a ∧ (∃ xs, SqT K H a xs) ∧ R a := ⟨p, rfl, ⟨xs, h1⟩, h⟩
theorem r_slL {p : Addr} {xs : List V} {l u : Option Int} (hp : SqL K H p xs) (h : ∀ q, H q = none → Q (.ref q) (upd H q (.lst (cutV xs l u)))) : rSlL K (.ref p) l u H Q := ⟨p, xs, rfl, hp, h⟩
section
variable {A B : Prop} {i : Int} {a : Addr} {b : Bool}
theorem r_nonT (h : A) : if decide (V.non = V.non) = true then A else B := r_yes rfl h
theorem r_nonI (h : B) : if decide (V.int i = V.non) = true then A else B := r_no (fun e => nomatch e) h
theorem r_nonR (h : B) : if decide (V.ref a = V.non) = true then A else B := r_no (fun e => nomatch e) h
theorem r_notT (h : B) : if (!decide (V.non = V.non)) = true then A else B := by rw [decide_eq_true rfl]; exact r_iteNT h
theorem r_notI (h : A) : if (!decide (V.int i = V.non)) = true then A else B := by rw [decide_eq_false (fun e => nomatch e)]; exact r_iteNF h
theorem r_notR (h : A) : if (!decide (V.ref a = V.non)) = true then A else B := by rw [decide_eq_false (fun e => nomatch e)]; exact r_iteNF h
end
theorem r_p64 (h : Q (.int 10000000000000000000000000000000000000000000000000000000000000000) H) : oPowA (.int 10) (.int 64) H Q := ⟨10, 64, rfl, rfl, powS (b := 4) (by decide) (by decide) (by decide) (by decide), h⟩
theorem r_p30 (h : Q (.int 1000000000000000000000000000000) H) : oPowA (.int 10) (.int 30) H Q := ⟨10, 30, rfl, rfl, powS (b := 4) (by decide) (by decide) (by decide) (by decide), h⟩
theorem r_p18 (h : Q (.int 1000000000000000000) H) : oPowA (.int 10) (.int 18) H Q := ⟨10, 18, rfl, rfl, powS (b := 4) (by decide) (by decide) (by decide) (by decide), h⟩
theorem r_p15 (h : Q (.int 1000000000000000) H) : oPowA (.int 10) (.int 15) H Q := ⟨10, 15, rfl, rfl, powS (b := 4) (by decide) (by decide) (by decide) (by decide), h⟩
theorem r_p12 (h : Q (.int 1000000000000) H) : oPowA (.int 10) (.int 12) H Q := ⟨10, 12, rfl, rfl, powS (b := 4) (by decide) (by decide) (by decide) (by decide), h⟩
theorem r_p9 (h : Q (.int 1000000000) H) : oPowA (.int 10) (.int 9) H Q := ⟨10, 9, rfl, rfl, powS (b := 4) (by decide) (by decide) (by decide) (by decide), h⟩
theorem r_p6 (h : Q (.int 1000000) H) : oPowA (.int 10) (.int 6) H Q := ⟨10, 6, rfl, rfl, powS (b := 4) (by decide) (by decide) (by decide) (by decide), h⟩
theorem r_neS {x : Str} (h : Q (.bl false) H) : rNe (.str x) (.str x) H Q := ⟨rfl, by rw [decide_eq_true rfl]; exact h⟩
end
theorem atI_ints {xs : List Int} {i : Int} (h0 : 0 ≤ i) (h1 : i < xs.length) : ∃ v, v ∈ xs ∧ atI (xs.map V.int) i = some (.int v) := by
  have h : i.toNat < xs.length := by omega
  refine ⟨xs[i.toNat], List.getElem_mem h, atI_i h0 ?_⟩
  rw [List.getElem?_map, List.getElem?_eq_getElem h]
  rfl
theorem cut_int {ns : List Int} {l u : Option Int} {x : V} (h : x ∈ cutV (ns.map V.int) l u) : ∃ z ∈ ns, x = .int z := by
  have h1 := List.mem_of_mem_drop (List.mem_of_mem_take h)
  obtain ⟨z, hz, e⟩ := List.mem_map.mp h1
  exact ⟨z, hz, e.symm⟩
/-! ### the draws -/
theorem Bag.ne {H : Hp} {a p : Addr} (g : Bag H a) (h : H p = none) : p ≠ a := by
  rintro rfl
  obtain ⟨x, y, z, e⟩ := g
  rw [h] at e
  cases e
theorem Bag.new {H : Hp} {a p : Addr} {o : HO} (g : Bag H a) (h : H p = none) : Bag (upd H p o) a := by
  obtain ⟨x, y, z, e⟩ := g
  exact ⟨x, y, z, (upd_ne (ne_of_none e h)).trans e⟩
theorem Bag.at {H H' : Hp} {a : Addr} (g : Bag H a) (s : Same H H') : Bag H' a := by
  obtain ⟨x, y, z, e⟩ := g
  exact ⟨x, y, z, s _ _ e⟩
theorem Bag.upd {H : Hp} {a p : Addr} {o : HO} (g : Bag H a) (h : a ≠ p) : Bag (L2.upd H p o) a := by
  obtain ⟨x, y, z, e⟩ := g
  exact ⟨x, y, z, (upd_ne h).trans e⟩
theorem But.free {H H' : Hp} {a p : Addr} (b : But a H H') (h : H' p = none) (n : p ≠ a) : H p = none := by
  cases q : H p with
  | none => rfl
  | some o =>
    rw [b p o n q] at h
    cases h
theorem But.freeB {H H' : Hp} {a p : Addr} (b : But a H H') (h : H' p = none) (g : Bag H' a) : H p = none := b.free h (g.ne h)
end Bs

namespace Bs
open PySem PySem.Spec L2 Bm
open PyProof.Rows hiding St
-- one step of a reading; side conditions; what a heap holds
local macro_rules | `(tactic| walk_at "sc") => `(tactic| (first
  | exact mulL ⟨by omega, by omega⟩ | exact mulR ⟨by omega, by omega⟩ | exact divS (by omega) (by omega) | exact (show (0 : Int) < _ by omega) | exact powS (b := 4) (by decide) (by decide) (by decide) (by decide) | assumption | omega))
local macro_rules | `(tactic| walk_at "ne") => `(tactic| (first
  | assumption | (apply Ne.symm; assumption) | exact ne_none (by assumption) (by walk_at "hp") | exact Ne.symm (ne_none (by assumption) (by walk_at "hp"))))
local macro_rules | `(tactic| walk_at "hp") => `(tactic| (first
  | assumption | exact upd_same | (refine (upd_ne ?k1).trans ?k2; (case k1 => walk_at "ne"); (case k2 => walk_at "hp")) | (refine Same.get (by assumption) ?_; walk_at "hp") | (refine But.get (by assumption) ?k1 ?k2; (case k1 => walk_at "hp"); (case k2 => walk_at "ne"))))
local macro_rules | `(tactic| walk_at "sq") => `(tactic| (first | assumption | exact SqL.of (by walk_at "hp") | exact SqT.of (by walk_at "hp")))
local macro_rules | `(tactic| walk_at "rd1") => `(tactic| (first
  | with_reducible refine r_seq ?_ | with_reducible refine r_asg ?_ | with_reducible refine r_asgG ?_ | with_reducible refine r_op ?_ | with_reducible refine r_var (by with_unfolding_all exact rfl) ?_ | with_reducible refine r_c ?_ | with_reducible refine r_I0 ?_ | with_reducible refine r_p30 ?_ | with_reducible refine r_p18 ?_ | with_reducible refine r_p12 ?_ | with_reducible refine r_p15 ?_ | with_reducible refine r_p9 ?_ | with_reducible refine r_p6 ?_ | with_reducible refine r_p64 ?_ | ((with_reducible refine r_I ?k1 ?k2); (case k1 => walk_at "sc")) | with_reducible refine r_U ?_ | with_reducible refine r_un ?_
  | with_reducible refine r_ret ?_ | with_reducible refine r_ifS ?_ | with_reducible refine r_test ?_ | with_reducible refine r_bl ?_ | with_reducible refine r_cb ?_ | with_reducible refine r_cons ?_ | with_reducible refine r_nil ?_ | with_reducible refine r_intI ?_ | with_reducible refine r_intB ?_ | refine r_max2' ?_ | refine r_min2' ?_ | with_reducible refine r_max3 ?_ | with_reducible refine r_min3 ?_
  | with_reducible refine r_call ?_ | with_reducible refine r_par ?_ | with_reducible refine r_and ?_ | with_reducible refine r_or ?_ | with_reducible refine r_not ?_ | with_reducible refine r_B ?_ | with_reducible refine r_andV ?_ | with_reducible refine r_orV ?_ | with_reducible refine r_notV ?_ | with_reducible refine r_ifE ?_ | with_reducible refine r_eqI ?_ | with_reducible refine r_neI ?_ | with_reducible refine r_eqB ?_ | with_reducible refine r_neB ?_ | with_reducible refine r_isN ?_ | with_reducible refine r_notN ?_
  | with_reducible refine r_chain ?_ | with_reducible refine r_chain3 ?_ | with_reducible refine r_drop ?_ | with_reducible refine r_next ?_ | with_reducible refine r_retN ?_ | with_reducible refine r_brk ?_ | with_reducible refine r_cont ?_ | with_reducible refine r_ex ?_
  | with_reducible refine r_tup ?_ | with_reducible refine r_lst ?_ | ((with_reducible refine r_new ?k1 ?k2); (case k1 => first | decide | exact Nat.le_of_ble_eq_true rfl)) | with_reducible refine r_sub ?_ | with_reducible refine r_gname ?_ | with_reducible refine r_gcons ?_ | with_reducible refine r_gnil ?_ | with_reducible refine r_slice ?_ | with_reducible refine r_noPart ?_ | with_reducible refine r_part ?_
  | with_reducible refine r_gtup (by with_unfolding_all walk_at "sq") (by with_unfolding_all exact rfl) ?_
  | with_reducible refine r_rng1 ?_ | with_reducible refine r_rng2 ?_ | ((with_reducible refine r_r1 ?k1 ?k2 ?k3); (case k1 => omega); (case k2 => omega)) | ((with_reducible refine r_r2 ?k1 ?k2); (case k1 => omega)) | with_reducible refine r_nonT ?_ | with_reducible refine r_nonI ?_ | with_reducible refine r_nonR ?_ | with_reducible refine r_notT ?_ | with_reducible refine r_notI ?_ | with_reducible refine r_notR ?_ | with_reducible refine r_for ?_ | with_reducible refine r_lc ?_ | with_reducible refine r_iL ?_ | with_reducible refine r_iT ?_ | with_reducible refine r_yesT ?_ | with_reducible refine r_same (by with_unfolding_all exact rfl) ?_ | with_reducible refine r_neS ?_ | with_reducible refine r_iteT ?_ | with_reducible refine r_iteF ?_ | with_reducible refine r_iteNT ?_ | with_reducible refine r_iteNF ?_))
local macro_rules | `(tactic| walk_at "rd") => `(tactic| repeat walk_at "rd1")
section
variable (K : PySem.W.Frag) {vs : List V} {H : Hp} {Q : VK} {E : XK}
theorem pure_is_int (h : sp_is_int K vs H Q E) : t_is_int K { nx := fun _ H' => Q .non H', rt := Q } (start n_is_int vs) H := by
  obtain ⟨i, rfl, q⟩ := h
  show t_is_int K _ [some (.int i)] H
  unfold t_is_int
  walk_at "rd"
  refine ⟨.int i, .ty "int", .type "int", .type "int", true, rfl, .ty _, .base (.int i), kit_ty (by decide +kernel), ?_⟩
  walk_at "rd"
  refine ⟨.int i, .ty "bool", .type "int", .type "bool", false, rfl, .ty _, .base (.int i), kit_ty (by decide +kernel), ?_⟩
  walk_at "rd"
  exact q
theorem pure_is_whole (h : sp_is_whole K vs H Q E) : t_is_whole K { nx := fun _ H' => Q .non H', rt := Q } (start n_is_whole vs) H := by
  obtain ⟨v, lo, hi, rfl, q⟩ := h
  show t_is_whole K _ [some (.int v), some (.int lo), some (.int hi)] H
  unfold t_is_whole
  walk_at "rd"
  refine ⟨v, rfl, ?_⟩
  walk_at "rd"
  refine r_ite (fun c => ?_) fun c => ?_
  · walk_at "rd"
    have e : decide (v ≤ hi) = decide (lo ≤ v ∧ v ≤ hi) := decide_eq_decide.mpr ⟨fun d => ⟨c, d⟩, fun d => d.2⟩
    rw [e]
    exact q
  · have e : decide (lo ≤ v ∧ v ≤ hi) = false := decide_eq_false fun d => c d.1
    rw [e] at q
    exact q
theorem pure_require_length (h : sp_require_length K vs H Q E) : t_require_length K { nx := fun _ H' => Q .non H', rt := Q } (start n_require_length vs) H := by
  obtain ⟨n, rfl, h1, h2, q⟩ := h
  show t_require_length K _ [some (.int n)] H
  unfold t_require_length
  walk_at "rd"
  refine ⟨n, _, _, rfl, ?_⟩
  rw [decide_eq_true ⟨h1, h2⟩]
  walk_at "rd"
  exact q
theorem pure_require_slots (h : sp_require_slots K vs H Q E) : t_require_slots K { nx := fun _ H' => Q .non H', rt := Q } (start n_require_slots vs) H := by
  obtain ⟨n, rfl, h1, h2, q⟩ := h
  show t_require_slots K _ [some (.int n)] H
  unfold t_require_slots
  walk_at "rd"
  refine ⟨n, _, _, rfl, ?_⟩
  rw [decide_eq_true ⟨h1, h2⟩]
  walk_at "rd"
  exact q
theorem pure_require_task (h : sp_require_task K vs H Q E) : t_require_task K { nx := fun _ H' => Q .non H', rt := Q } (start n_require_task vs) H := by
  obtain ⟨n, s, rfl, h1, h2, h3, h4, q⟩ := h
  show t_require_task K _ [some (.int n), some (.int s)] H
  unfold t_require_task
  walk_at "rd"
  refine ⟨n, rfl, h1, h2, ?_⟩
  walk_at "rd"
  refine ⟨s, rfl, h3, h4, ?_⟩
  exact q
theorem reach_turn {s r : Int} {i : Nat} (hi : i < s.toNat) (hs : s ≤ 110) (h : -1 ≤ r) (hr : r ≤ 2 ^ 110) : IntMulOk (rcI i r) (r + i + 1) ∧ rcI i r * (r + i + 1) / ((i : Int) + 1) = rcI ((i : Int) + 1) r := by
  constructor
  · exact mulW (a := 12300) (b := 112) (rcI_le (by omega) (by omega) h hr) (by omega) (by decide) (by decide) (by decide)
  · have e := rc_div (s := i) h
    unfold rcI
    rw [Int.toNat_natCast, show ((i : Int) + 1).toNat = i + 1 by omega]
    exact e
theorem pure_reach_of (h : sp_reach_of K vs H Q E) : t_reach_of K { nx := fun _ H' => Q .non H', rt := Q } (start n_reach_of vs) H := by
  obtain ⟨s, r, rfl, h1, h2, h3, h4, q⟩ := h
  show t_reach_of K _ [some (.int s), some (.int r), none, none] H
  unfold t_reach_of
  walk_at "rd"
  refine for_range (fun i σ H' => H' = H ∧ ∃ v, σ = [some (.int s), some (.int r), some (.int (rcI i r)), v]) ⟨rfl, none, ?_⟩ ?_ ?_
  · unfold rcI; rw [show ((0 : Nat) : Int).toNat = 0 from rfl, rc_0]; rfl
  · rintro i σ H' hi ⟨rfl, v, rfl⟩
    have hi' : i < s.toNat := by omega
    obtain ⟨a, b⟩ := reach_turn hi' (by omega) h3 h4
    walk_at "rd"
    refine r_I (by rw [show r + (1 + (i : Int)) = r + i + 1 by omega]; exact a) ?_
    walk_at "rd"
    refine ⟨rfl, some (.int (1 + (i : Int))), ?_⟩
    rw [show r + (1 + (i : Int)) = r + i + 1 by omega, show 1 + (i : Int) = (i : Int) + 1 by omega, b]
    rfl
  · rintro σ H' ⟨rfl, v, rfl⟩
    walk_at "rd"
    rw [show ((s + 1 - 1).toNat : Int) = s by omega]
    exact q
theorem pure_l_reach (h : sp_l_reach K vs H Q E) : t_l_reach K { nx := fun _ H' => Q .non H', rt := Q } (start n_l_reach vs) H := by
  obtain ⟨s, r, rfl, h1, h2, h3, h4, q⟩ := h
  show t_l_reach K _ [some (.int s), some (.int r), none, none] H
  unfold t_l_reach
  walk_at "rd"
  refine for_range (fun i σ H' => H' = H ∧ ∃ v, σ = [some (.int s), some (.int r), some (.int (rcI i r)), v]) ⟨rfl, none, ?_⟩ ?_ ?_
  · unfold rcI; rw [show ((0 : Nat) : Int).toNat = 0 from rfl, rc_0]; rfl
  · rintro i σ H' hi ⟨rfl, v, rfl⟩
    obtain ⟨a, b⟩ := reach_turn hi (by omega) h3 h4
    walk_at "rd"
    refine r_I (by rw [show r + (0 + (i : Int)) + 1 = r + i + 1 by omega]; exact a) ?_
    walk_at "rd"
    refine ⟨rfl, some (.int (0 + (i : Int))), ?_⟩
    rw [show r + (0 + (i : Int)) + 1 = r + i + 1 by omega, show 0 + (i : Int) + 1 = (i : Int) + 1 by omega, b]
    rfl
  · rintro σ H' ⟨rfl, v, rfl⟩
    walk_at "rd"
    rw [show (s.toNat : Int) = s by omega]
    exact q
end
end Bs

namespace Bs
open PySem PySem.Spec L2 Bm
open PyProof.Rows hiding St
-- one step of a reading; side conditions; what a heap holds
local macro_rules | `(tactic| walk_at "sc") => `(tactic| (first
  | exact mulL ⟨by omega, by omega⟩ | exact mulR ⟨by omega, by omega⟩ | exact divS (by omega) (by omega) | exact (show (0 : Int) < _ by omega) | exact powS (b := 4) (by decide) (by decide) (by decide) (by decide) | assumption | omega))
local macro_rules | `(tactic| walk_at "ne") => `(tactic| (first
  | assumption | (apply Ne.symm; assumption) | exact ne_none (by assumption) (by walk_at "hp") | exact Ne.symm (ne_none (by assumption) (by walk_at "hp"))))
local macro_rules | `(tactic| walk_at "hp") => `(tactic| (first
  | assumption | exact upd_same | (refine (upd_ne ?k1).trans ?k2; (case k1 => walk_at "ne"); (case k2 => walk_at "hp")) | (refine Same.get (by assumption) ?_; walk_at "hp") | (refine But.get (by assumption) ?k1 ?k2; (case k1 => walk_at "hp"); (case k2 => walk_at "ne"))))
local macro_rules | `(tactic| walk_at "sq") => `(tactic| (first | assumption | exact SqL.of (by walk_at "hp") | exact SqT.of (by walk_at "hp")))
local macro_rules | `(tactic| walk_at "rd1") => `(tactic| (first
  | with_reducible refine r_seq ?_ | with_reducible refine r_asg ?_ | with_reducible refine r_asgG ?_ | with_reducible refine r_op ?_ | with_reducible refine r_var (by with_unfolding_all exact rfl) ?_ | with_reducible refine r_c ?_ | with_reducible refine r_I0 ?_ | with_reducible refine r_p30 ?_ | with_reducible refine r_p18 ?_ | with_reducible refine r_p12 ?_ | with_reducible refine r_p15 ?_ | with_reducible refine r_p9 ?_ | with_reducible refine r_p6 ?_ | with_reducible refine r_p64 ?_ | ((with_reducible refine r_I ?k1 ?k2); (case k1 => walk_at "sc")) | with_reducible refine r_U ?_ | with_reducible refine r_un ?_
  | with_reducible refine r_ret ?_ | with_reducible refine r_ifS ?_ | with_reducible refine r_test ?_ | with_reducible refine r_bl ?_ | with_reducible refine r_cb ?_ | with_reducible refine r_cons ?_ | with_reducible refine r_nil ?_ | with_reducible refine r_intI ?_ | with_reducible refine r_intB ?_ | refine r_max2' ?_ | refine r_min2' ?_ | with_reducible refine r_max3 ?_ | with_reducible refine r_min3 ?_
  | with_reducible refine r_call ?_ | with_reducible refine r_par ?_ | with_reducible refine r_and ?_ | with_reducible refine r_or ?_ | with_reducible refine r_not ?_ | with_reducible refine r_B ?_ | with_reducible refine r_andV ?_ | with_reducible refine r_orV ?_ | with_reducible refine r_notV ?_ | with_reducible refine r_ifE ?_ | with_reducible refine r_eqI ?_ | with_reducible refine r_neI ?_ | with_reducible refine r_eqB ?_ | with_reducible refine r_neB ?_ | with_reducible refine r_isN ?_ | with_reducible refine r_notN ?_
  | with_reducible refine r_chain ?_ | with_reducible refine r_chain3 ?_ | with_reducible refine r_drop ?_ | with_reducible refine r_next ?_ | with_reducible refine r_retN ?_ | with_reducible refine r_brk ?_ | with_reducible refine r_cont ?_ | with_reducible refine r_ex ?_
  | with_reducible refine r_tup ?_ | with_reducible refine r_lst ?_ | ((with_reducible refine r_new ?k1 ?k2); (case k1 => first | decide | exact Nat.le_of_ble_eq_true rfl)) | with_reducible refine r_sub ?_ | with_reducible refine r_gname ?_ | with_reducible refine r_gcons ?_ | with_reducible refine r_gnil ?_ | with_reducible refine r_slice ?_ | with_reducible refine r_noPart ?_ | with_reducible refine r_part ?_
  | with_reducible refine r_gtup (by with_unfolding_all walk_at "sq") (by with_unfolding_all exact rfl) ?_
  | with_reducible refine r_rng1 ?_ | with_reducible refine r_rng2 ?_ | ((with_reducible refine r_r1 ?k1 ?k2 ?k3); (case k1 => omega); (case k2 => omega)) | ((with_reducible refine r_r2 ?k1 ?k2); (case k1 => omega)) | with_reducible refine r_nonT ?_ | with_reducible refine r_nonI ?_ | with_reducible refine r_nonR ?_ | with_reducible refine r_notT ?_ | with_reducible refine r_notI ?_ | with_reducible refine r_notR ?_ | with_reducible refine r_for ?_ | with_reducible refine r_lc ?_ | with_reducible refine r_iL ?_ | with_reducible refine r_iT ?_ | with_reducible refine r_yesT ?_ | with_reducible refine r_same (by with_unfolding_all exact rfl) ?_ | with_reducible refine r_neS ?_ | with_reducible refine r_iteT ?_ | with_reducible refine r_iteF ?_ | with_reducible refine r_iteNT ?_ | with_reducible refine r_iteNF ?_))
local macro_rules | `(tactic| walk_at "rd") => `(tactic| repeat walk_at "rd1")
section
variable (K : PySem.W.Frag) {vs : List V} {H : Hp} {Q : VK} {E : XK}
/-- the search for the rounds: what holds while the upper bound is doubled, while the gap is halved -/
def Dbl (n s : Int) (H : Hp) (m : Nat) (σ : L2.St) (H' : Hp) : Prop := ∃ lo hi v, σ = [some (.int n), some (.int s), some (.int lo), some (.int hi), v] ∧ Same H H' ∧ -1 ≤ lo ∧ lo < hi ∧ rcI s lo < n ∧ (hi = 1 ∨ hi = 2 * lo) ∧ m = (n - lo).toNat
def Hlv (n s : Int) (H : Hp) (m : Nat) (σ : L2.St) (H' : Hp) : Prop := ∃ lo hi v, σ = [some (.int n), some (.int s), some (.int lo), some (.int hi), v] ∧ Same H H' ∧ -1 ≤ lo ∧ lo < hi ∧ rcI s lo < n ∧ n ≤ rcI s hi ∧ hi ≤ 2 ^ 105 ∧ m = (hi - lo).toNat
theorem rcI_lt {n s lo : Int} (hs : 1 ≤ s) (h : -1 ≤ lo) (hl : rcI s lo < n) : lo + 1 < n := by
  unfold rcI at hl
  obtain ⟨k, e⟩ : ∃ k, s.toNat = k + 1 := ⟨s.toNat - 1, by omega⟩
  rw [e] at hl
  have := rc_lin (s := k) h
  omega
theorem rcI_m1 {s : Int} (hs : 1 ≤ s) : rcI s (-1) = 0 := by
  unfold rcI
  obtain ⟨k, e⟩ : ∃ k, s.toNat = k + 1 := ⟨s.toNat - 1, by omega⟩
  rw [e, rc_neg (by omega)]
theorem rhoI_of {n s hi lo : Int} (hn : 1 ≤ n) (hs : 1 ≤ s) (h : -1 ≤ lo) (h1 : lo < hi) (h2 : ¬ 1 < hi - lo) (h3 : rcI s lo < n) (h4 : n ≤ rcI s hi) : hi = rhoI n s := by
  have e : lo = hi - 1 := by omega
  subst e
  exact (rho_eq hn (by omega) ⟨by omega, h4, h3⟩).symm
theorem pure_rounds_of (h : sp_rounds_of K vs H Q E) : t_rounds_of K { nx := fun _ H' => Q .non H', rt := Q } (start n_rounds_of vs) H := by
  obtain ⟨n, s, rfl, h1, h2, h3, h4, q⟩ := h
  show t_rounds_of K _ [some (.int n), some (.int s), none, none, none] H
  unfold t_rounds_of
  walk_at "rd"
  intro p hp
  walk_at "rd"
  refine r_while (Dbl n s H) _ ⟨-1, 1, none, rfl, Same.new hp, by omega, by omega, by rw [rcI_m1 h3]; omega, .inl rfl, rfl⟩ ?_
  rintro m σ H1 ⟨lo, hi, v, rfl, s1, a1, a2, a3, a4, rfl⟩
  have a5 := rcI_lt h3 a1 a3
  walk_at "rd"
  refine ⟨s, hi, rfl, by omega, by omega, by omega, by omega, ?_⟩
  walk_at "rd"
  refine r_ite (fun c => ?_) fun c => ?_
  · refine r_N ?_
    walk_at "rd"
    refine ⟨(n - hi).toNat, by omega, hi, 2 * hi, v, rfl, s1, by omega, ?_, c, .inr rfl, rfl⟩
    · have : 1 ≤ hi := by
        rcases a4 with e | e
        · omega
        · have : lo ≠ 0 := by rintro rfl; omega
          omega
      omega
  · walk_at "rd"
    refine r_while (Hlv n s H) _ ⟨lo, hi, v, rfl, s1, a1, a2, a3, by omega, by omega, rfl⟩ ?_
    rintro m σ H2 ⟨lo, hi, v, rfl, s2, b1, b2, b3, b4, b5, rfl⟩
    walk_at "rd"
    refine r_ite (fun c => ?_) fun c => ?_
    · refine r_N ?_
      walk_at "rd"
      refine ⟨s, (lo + hi) / 2, rfl, by omega, by omega, by omega, by omega, ?_⟩
      walk_at "rd"
      refine r_ite (fun d => ?_) fun d => ?_
      · walk_at "rd"
        exact ⟨(hi - (lo + hi) / 2).toNat, by omega, _, _, _, rfl, s2, by omega, by omega, d, b4, b5, rfl⟩
      · walk_at "rd"
        exact ⟨((lo + hi) / 2 - lo).toNat, by omega, _, _, _, rfl, s2, by omega, by omega, b3, by omega, by omega, rfl⟩
    · walk_at "rd"
      rw [rhoI_of h1 h3 b1 b2 c b3 b4]
      exact q _ s2
theorem pure_l_rounds (h : sp_l_rounds K vs H Q E) : t_l_rounds K { nx := fun _ H' => Q .non H', rt := Q } (start n_l_rounds vs) H := by
  obtain ⟨n, s, rfl, h1, h2, h3, h4, q⟩ := h
  show t_l_rounds K _ [some (.int n), some (.int s), none, none, none] H
  unfold t_l_rounds
  walk_at "rd"
  intro p hp
  walk_at "rd"
  refine r_while (Dbl n s H) _ ⟨-1, 1, none, rfl, Same.new hp, by omega, by omega, by rw [rcI_m1 h3]; omega, .inl rfl, rfl⟩ ?_
  rintro m σ H1 ⟨lo, hi, v, rfl, s1, a1, a2, a3, a4, rfl⟩
  have a5 := rcI_lt h3 a1 a3
  walk_at "rd"
  refine ⟨s, hi, rfl, by omega, by omega, by omega, by omega, ?_⟩
  walk_at "rd"
  refine r_ite (fun c => ?_) fun c => ?_
  · refine r_N ?_
    walk_at "rd"
    refine ⟨(n - hi).toNat, by omega, hi, 2 * hi, v, rfl, s1, by omega, ?_, c, .inr rfl, rfl⟩
    · have : 1 ≤ hi := by
        rcases a4 with e | e
        · omega
        · have : lo ≠ 0 := by rintro rfl; omega
          omega
      omega
  · walk_at "rd"
    refine r_while (Hlv n s H) _ ⟨lo, hi, v, rfl, s1, a1, a2, a3, by omega, by omega, rfl⟩ ?_
    rintro m σ H2 ⟨lo, hi, v, rfl, s2, b1, b2, b3, b4, b5, rfl⟩
    walk_at "rd"
    refine r_ite (fun c => ?_) fun c => ?_
    · refine r_N ?_
      walk_at "rd"
      refine ⟨s, (lo + hi) / 2, rfl, by omega, by omega, by omega, by omega, ?_⟩
      walk_at "rd"
      refine r_ite (fun d => ?_) fun d => ?_
      · walk_at "rd"
        exact ⟨(hi - (lo + hi) / 2).toNat, by omega, _, _, _, rfl, s2, by omega, by omega, d, b4, b5, rfl⟩
      · walk_at "rd"
        exact ⟨((lo + hi) / 2 - lo).toNat, by omega, _, _, _, rfl, s2, by omega, by omega, b3, by omega, by omega, rfl⟩
    · walk_at "rd"
      rw [rhoI_of h1 h3 b1 b2 c b3 b4]
      exact q _ s2
theorem pure_steps_with (h : sp_steps_with K vs H Q E) : t_steps_with K { nx := fun _ H' => Q .non H', rt := Q } (start n_steps_with vs) H := by
  obtain ⟨n, s, r, rfl, h1, h2, h3, h4, h5, h6, q⟩ := h
  show t_steps_with K _ [some (.int n), some (.int s), some (.int r)] H
  unfold t_steps_with
  walk_at "rd"
  refine r_I (mulW (a := 120) (b := 120) (by omega) (by omega) (by decide) (by decide) (by decide)) ?_
  walk_at "rd"
  refine ⟨s + 1, r - 1, rfl, by omega, by omega, by omega, by omega, ?_⟩
  walk_at "rd"
  exact q
theorem pure_least_of (h : sp_least_of K vs H Q E) : t_least_of K { nx := fun _ H' => Q .non H', rt := Q } (start n_least_of vs) H := by
  obtain ⟨n, s, rfl, h1, h2, h3, h4, q⟩ := h
  show t_least_of K _ [some (.int n), some (.int s)] H
  unfold t_least_of
  walk_at "rd"
  refine ⟨n, s, rfl, h1, h2, h3, h4, fun H' s' => ?_⟩
  walk_at "rd"
  have a := rhoI_nn h1 h3
  have b := rhoI_lt h1 h3
  refine ⟨n, s, rhoI n s, rfl, h1, h2, h3, h4, a, by omega, ?_⟩
  rw [← ttI_eq (by omega)]
  exact q _ s'
theorem pure_l_least (h : sp_l_least K vs H Q E) : t_l_least K { nx := fun _ H' => Q .non H', rt := Q } (start n_l_least vs) H := by
  obtain ⟨n, s, rfl, h1, h2, h3, h4, q⟩ := h
  show t_l_least K _ [some (.int n), some (.int s), none] H
  unfold t_l_least
  walk_at "rd"
  refine ⟨n, s, rfl, h1, h2, h3, h4, fun H' s' => ?_⟩
  have a := rhoI_nn h1 h3
  have b := rhoI_lt h1 h3
  walk_at "rd"
  refine r_I (mulW (a := 120) (b := 120) (by omega) (by omega) (by decide) (by decide) (by decide)) ?_
  walk_at "rd"
  refine ⟨s + 1, rhoI n s - 1, rfl, by omega, by omega, by omega, by omega, ?_⟩
  walk_at "rd"
  have e := ttI_eq (n := n) (s := s) (by omega)
  unfold ggI at e
  rw [← e]
  exact q _ s'
theorem pure_splits_with (h : sp_splits_with K vs H Q E) : t_splits_with K { nx := fun _ H' => Q .non H', rt := Q } (start n_splits_with vs) H := by
  obtain ⟨n, s, rfl, h1, h2, h3, h4, q⟩ := h
  show t_splits_with K _ [some (.int n), some (.int s), some (.int (rhoI n s)), none] H
  have a := rhoI_pos h1 (s := s) (by omega)
  have b := rhoI_lt (n := n) (s := s) (by omega) (by omega)
  unfold t_splits_with
  have step : ∀ (z : Int), z = (if rhoI n s > 1 then rcI s (rhoI n s - 2) else 0) → t_splits_with K { nx := fun _ H' => Q .non H', rt := Q } [some (.int n), some (.int s), some (.int (rhoI n s)), none] H := by
    intro z hz
    unfold t_splits_with
    walk_at "rd"
    refine r_ite (fun c => ?_) fun c => ?_
    all_goals
      walk_at "rd"
      first
        | refine ⟨s, rhoI n s - 2, rfl, by omega, by omega, by omega, by omega, ?_⟩
          walk_at "rd"
        | skip
      refine ⟨s - 1, rhoI n s, rfl, by omega, by omega, by omega, by omega, ?_⟩
      walk_at "rd"
      refine ⟨s, rhoI n s - 1, rfl, by omega, by omega, by omega, by omega, ?_⟩
      walk_at "rd"
      refine ⟨s - 1, rhoI n s - 1, rfl, by omega, by omega, by omega, by omega, ?_⟩
      walk_at "rd"
      intro p hp
      refine q p _ (Same.new hp) hp ?_
      rw [upd_same]
      unfold loI hiI
      first
        | rw [if_pos c]
        | rw [if_neg c]
  exact step _ rfl
theorem pure_best_splits (h : sp_best_splits K vs H Q E) : t_best_splits K { nx := fun _ H' => Q .non H', rt := Q } (start n_best_splits vs) H := by
  obtain ⟨n, s, rfl, h1, h2, h3, h4, q1, q2⟩ := h
  show t_best_splits K _ [some (.int n), some (.int s)] H
  unfold t_best_splits
  walk_at "rd"
  refine ⟨n, s, rfl, h1, h2, h3, h4, ?_⟩
  walk_at "rd"
  refine r_ite (fun c => ?_) fun c => ?_
  · walk_at "rd"
    exact q1 (.inl c) _ (Same.refl _)
  · walk_at "rd"
    refine r_ite (fun d => ?_) fun d => ?_
    · walk_at "rd"
      exact q1 (.inr d) _ (Same.refl _)
    · walk_at "rd"
      refine ⟨n, s, rfl, h1, by omega, h3, by omega, fun H' s' => ?_⟩
      walk_at "rd"
      exact ⟨n, s, rfl, by omega, by omega, by omega, h4, fun p H2 s2 hp e => q2 (by omega) (by omega) p H2 (s'.trans s2) (Same.none s' hp) e⟩
theorem pure_split_loss (h : sp_split_loss K vs H Q E) : t_split_loss K { nx := fun _ H' => Q .non H', rt := Q } (start n_split_loss vs) H := by
  obtain ⟨n, s, m, rfl, h1, h2, h3, h4, h5, q⟩ := h
  show t_split_loss K _ [some (.int n), some (.int s), some (.int m), none] H
  unfold t_split_loss
  walk_at "rd"
  refine ⟨n, rfl, by omega, h1, ?_⟩
  walk_at "rd"
  refine ⟨s, rfl, by omega, h3, ?_⟩
  walk_at "rd"
  refine r_no (by omega) ?_
  walk_at "rd"
  refine ⟨m, 1, n - 1, rfl, ?_⟩
  rw [decide_eq_true ⟨h4, by omega⟩]
  walk_at "rd"
  refine ⟨n - m, s - 1, rfl, by omega, by omega, by omega, by omega, fun H1 s1 => ?_⟩
  walk_at "rd"
  refine ⟨m, s, rfl, by omega, by omega, by omega, by omega, fun H2 s2 => ?_⟩
  walk_at "rd"
  refine ⟨n, s, rfl, by omega, by omega, by omega, by omega, fun H3 s3 => ?_⟩
  walk_at "rd"
  exact q _ ((s1.trans s2).trans s3)
theorem pure_l_loss (h : sp_l_loss K vs H Q E) : t_l_loss K { nx := fun _ H' => Q .non H', rt := Q } (start n_l_loss vs) H := by
  obtain ⟨n, s, m, rfl, h1, h2, h3, h4, h5, q⟩ := h
  show t_l_loss K _ [some (.int n), some (.int s), some (.int m), none] H
  unfold t_l_loss
  walk_at "rd"
  refine ⟨n - m, s - 1, rfl, by omega, by omega, by omega, by omega, fun H1 s1 => ?_⟩
  walk_at "rd"
  refine ⟨m, s, rfl, by omega, by omega, by omega, by omega, fun H2 s2 => ?_⟩
  walk_at "rd"
  refine ⟨n, s, rfl, by omega, by omega, by omega, by omega, fun H3 s3 => ?_⟩
  walk_at "rd"
  exact q _ ((s1.trans s2).trans s3)
end
end Bs

namespace Bs
open PySem PySem.Spec L2 Bm
open PyProof.Rows hiding St
-- one step of a reading; side conditions; what a heap holds
local macro_rules | `(tactic| walk_at "sc") => `(tactic| (first
  | exact mulL ⟨by omega, by omega⟩ | exact mulR ⟨by omega, by omega⟩ | exact divS (by omega) (by omega) | exact (show (0 : Int) < _ by omega) | exact powS (b := 4) (by decide) (by decide) (by decide) (by decide) | assumption | omega))
local macro_rules | `(tactic| walk_at "ne") => `(tactic| (first
  | assumption | (apply Ne.symm; assumption) | exact ne_none (by assumption) (by walk_at "hp") | exact Ne.symm (ne_none (by assumption) (by walk_at "hp"))))
local macro_rules | `(tactic| walk_at "hp") => `(tactic| (first
  | assumption | exact upd_same | (refine (upd_ne ?k1).trans ?k2; (case k1 => walk_at "ne"); (case k2 => walk_at "hp")) | (refine Same.get (by assumption) ?_; walk_at "hp") | (refine But.get (by assumption) ?k1 ?k2; (case k1 => walk_at "hp"); (case k2 => walk_at "ne"))))
local macro_rules | `(tactic| walk_at "sq") => `(tactic| (first | assumption | exact SqL.of (by walk_at "hp") | exact SqT.of (by walk_at "hp")))
local macro_rules | `(tactic| walk_at "rd1") => `(tactic| (first
  | with_reducible refine r_seq ?_ | with_reducible refine r_asg ?_ | with_reducible refine r_asgG ?_ | with_reducible refine r_op ?_ | with_reducible refine r_var (by with_unfolding_all exact rfl) ?_ | with_reducible refine r_c ?_ | with_reducible refine r_I0 ?_ | with_reducible refine r_p30 ?_ | with_reducible refine r_p18 ?_ | with_reducible refine r_p12 ?_ | with_reducible refine r_p15 ?_ | with_reducible refine r_p9 ?_ | with_reducible refine r_p6 ?_ | with_reducible refine r_p64 ?_ | ((with_reducible refine r_I ?k1 ?k2); (case k1 => walk_at "sc")) | with_reducible refine r_U ?_ | with_reducible refine r_un ?_
  | with_reducible refine r_ret ?_ | with_reducible refine r_ifS ?_ | with_reducible refine r_test ?_ | with_reducible refine r_bl ?_ | with_reducible refine r_cb ?_ | with_reducible refine r_cons ?_ | with_reducible refine r_nil ?_ | with_reducible refine r_intI ?_ | with_reducible refine r_intB ?_ | refine r_max2' ?_ | refine r_min2' ?_ | with_reducible refine r_max3 ?_ | with_reducible refine r_min3 ?_
  | with_reducible refine r_call ?_ | with_reducible refine r_par ?_ | with_reducible refine r_and ?_ | with_reducible refine r_or ?_ | with_reducible refine r_not ?_ | with_reducible refine r_B ?_ | with_reducible refine r_andV ?_ | with_reducible refine r_orV ?_ | with_reducible refine r_notV ?_ | with_reducible refine r_ifE ?_ | with_reducible refine r_eqI ?_ | with_reducible refine r_neI ?_ | with_reducible refine r_eqB ?_ | with_reducible refine r_neB ?_ | with_reducible refine r_isN ?_ | with_reducible refine r_notN ?_
  | with_reducible refine r_chain ?_ | with_reducible refine r_chain3 ?_ | with_reducible refine r_drop ?_ | with_reducible refine r_next ?_ | with_reducible refine r_retN ?_ | with_reducible refine r_brk ?_ | with_reducible refine r_cont ?_ | with_reducible refine r_ex ?_
  | with_reducible refine r_tup ?_ | with_reducible refine r_lst ?_ | ((with_reducible refine r_new ?k1 ?k2); (case k1 => first | decide | exact Nat.le_of_ble_eq_true rfl)) | with_reducible refine r_sub ?_ | with_reducible refine r_gname ?_ | with_reducible refine r_gcons ?_ | with_reducible refine r_gnil ?_ | with_reducible refine r_slice ?_ | with_reducible refine r_noPart ?_ | with_reducible refine r_part ?_
  | with_reducible refine r_gtup (by with_unfolding_all walk_at "sq") (by with_unfolding_all exact rfl) ?_
  | with_reducible refine r_rng1 ?_ | with_reducible refine r_rng2 ?_ | ((with_reducible refine r_r1 ?k1 ?k2 ?k3); (case k1 => omega); (case k2 => omega)) | ((with_reducible refine r_r2 ?k1 ?k2); (case k1 => omega)) | with_reducible refine r_nonT ?_ | with_reducible refine r_nonI ?_ | with_reducible refine r_nonR ?_ | with_reducible refine r_notT ?_ | with_reducible refine r_notI ?_ | with_reducible refine r_notR ?_ | with_reducible refine r_for ?_ | with_reducible refine r_lc ?_ | with_reducible refine r_iL ?_ | with_reducible refine r_iT ?_ | with_reducible refine r_yesT ?_ | with_reducible refine r_same (by with_unfolding_all exact rfl) ?_ | with_reducible refine r_neS ?_ | with_reducible refine r_iteT ?_ | with_reducible refine r_iteF ?_ | with_reducible refine r_iteNT ?_ | with_reducible refine r_iteNF ?_))
local macro_rules | `(tactic| walk_at "rd") => `(tactic| repeat walk_at "rd1")
section
variable (K : PySem.W.Frag) {vs : List V} {H : Hp} {Q : VK} {E : XK}
theorem pure_l_bag (h : sp_l_bag K vs H Q E) : t_l_bag K { nx := fun _ H' => Q .non H', rt := Q } (start n_l_bag vs) H := by
  obtain ⟨c, rfl, q⟩ := h
  show t_l_bag K _ [some (.int c)] H
  unfold t_l_bag
  walk_at "rd"
  intro p hp
  exact q p _ (Same.new hp) hp ⟨_, _, _, upd_same⟩
theorem pure_l_pick (h : sp_l_pick K vs H Q E) : t_l_pick K { nx := fun _ H' => Q .non H', rt := Q } (start n_l_pick vs) H := by
  obtain ⟨a, m, rfl, h1, h2, ⟨x, y, z, hb⟩, q⟩ := h
  show t_l_pick K _ [some (.ref a), some (.int m), none, none, none, none, none, none] H
  unfold t_l_pick
  walk_at "rd"
  refine r_ixL (xs := [.int x, .int y, .int z]) (i := 2) (v := .int z) (SqL.of hb) rfl ?_
  walk_at "rd"
  refine r_setL hb (jj := 2) rfl ?_
  walk_at "rd"
  have hb1 : (upd H a (.lst ([V.int x, .int y, .int z].set 2 (.int (z + 1))))) a = some (.lst [.int x, .int y, .int (z + 1)]) := upd_same
  have b1 : But a H (upd H a (.lst ([V.int x, .int y, .int z].set 2 (.int (z + 1))))) := (But.refl a H).upd
  generalize upd H a (.lst ([V.int x, .int y, .int z].set 2 (.int (z + 1)))) = H1 at hb1 b1 ⊢
  refine r_ixL (xs := [.int x, .int y, .int (z + 1)]) (i := 0) (v := .int x) (SqL.of hb1) rfl ?_
  walk_at "rd"
  refine r_ite (fun c => ?_) fun c => ?_
  · walk_at "rd"
    refine r_ixL (xs := [.int x, .int y, .int (z + 1)]) (i := 0) (v := .int x) (SqL.of hb1) rfl ?_
    walk_at "rd"
    refine r_ixL (xs := [.int x, .int y, .int (z + 1)]) (i := 0) (v := .int x) (SqL.of hb1) rfl ?_
    walk_at "rd"
    refine r_setL hb1 (jj := 0) rfl ?_
    walk_at "rd"
    exact q _ _ (Int.emod_nonneg _ (by omega)) (Int.emod_lt_of_pos _ (by omega)) b1.upd ⟨_, _, _, upd_same⟩
  · walk_at "rd"
    refine r_ixL (xs := [.int x, .int y, .int (z + 1)]) (i := 1) (v := .int y) (SqL.of hb1) rfl ?_
    walk_at "rd"
    refine r_ixL (xs := [.int x, .int y, .int (z + 1)]) (i := 2) (v := .int (z + 1)) (SqL.of hb1) rfl ?_
    walk_at "rd"
    refine r_ite (fun d => ?_) fun d => ?_
    · walk_at "rd"
      refine r_I (powS (b := 60) (by decide) (by omega) (by decide) (by decide)) ?_
      walk_at "rd"
      exact q _ _ (Int.emod_nonneg _ (by omega)) (Int.emod_lt_of_pos _ (by omega)) b1 ⟨_, _, _, hb1⟩
    · walk_at "rd"
      exact q _ _ (Int.emod_nonneg _ (by omega)) (Int.emod_lt_of_pos _ (by omega)) b1 ⟨_, _, _, hb1⟩
theorem rcI_small {s r : Int} (h0 : 0 ≤ s) (h1 : s ≤ 100) (h2 : 0 ≤ r) (h3 : r ≤ 2 ^ 110) : 1 ≤ rcI s r := rc_pos h2
theorem pure_l_task (h : sp_l_task K vs H Q E) : t_l_task K { nx := fun _ H' => Q .non H', rt := Q } (start n_l_task vs) H := by
  obtain ⟨a, rfl, hb, q⟩ := h
  show t_l_task K _ [some (.ref a), none, none] H
  unfold t_l_task
  walk_at "rd"
  intro p1 hp1
  have n1 := hb.ne hp1
  walk_at "rd"
  refine ⟨a, 2, rfl, by omega, by omega, hb.new hp1, fun r1 H1 a1 a2 b1 g1 => ?_⟩
  obtain ⟨v1, m1, e1⟩ := atI_ints (xs := [5, 100]) a1 a2
  refine r_ixL (xs := [.int 5, .int 100]) (SqL.of (b1.get upd_same n1)) e1 ?_
  have w1 : 1 ≤ v1 ∧ v1 ≤ 100 := by simp at m1; omega
  walk_at "rd"
  refine ⟨a, v1, rfl, by omega, by omega, g1, fun r2 H2 c1 c2 b2 g2 => ?_⟩
  walk_at "rd"
  intro p2 hp2
  have n2 := g2.ne hp2
  walk_at "rd"
  refine ⟨a, 3, rfl, by omega, by omega, g2.new hp2, fun r3 H3 d1 d2 b3 g3 => ?_⟩
  obtain ⟨v2, m2, e2⟩ := atI_ints (xs := [90, 1000000000000, 1000000000000000000000000000000]) d1 d2
  refine r_ixL (xs := [.int 90, .int 1000000000000, .int 1000000000000000000000000000000]) (SqL.of (b3.get upd_same n2)) e2 ?_
  have w2 : 1 ≤ v2 ∧ v2 ≤ 1000000000000000000000000000000 := by simp at m2; omega
  walk_at "rd"
  refine ⟨a, v2, rfl, by omega, by omega, g3, fun r4 H4 f1 f2 b4 g4 => ?_⟩
  walk_at "rd"
  refine ⟨a, 2, rfl, by omega, by omega, g4, fun r5 H5 _ _ b5 g5 => ?_⟩
  have bt : But a H H5 := (((((But.refl a H).new hp1).trans b1).trans b2).new hp2).trans (b3.trans (b4.trans b5))
  walk_at "rd"
  refine r_ite (fun c => ?_) fun c => ?_
  · walk_at "rd"
    refine ⟨a, 40, rfl, by omega, by omega, g5, fun r6 H6 k1 k2 b6 g6 => ?_⟩
    walk_at "rd"
    refine ⟨1 + r2, r6, rfl, by omega, by omega, by omega, by omega, ?_⟩
    walk_at "rd"
    refine ⟨a, 3, rfl, by omega, by omega, g6, fun r7 H7 l1 l2 b7 g7 => ?_⟩
    walk_at "rd"
    intro p hp
    refine q _ (1 + r2) p _ ?_ ?_ (by omega) (by omega) ((bt.trans (b6.trans b7)).new hp) (g7.new hp) ((bt.trans (b6.trans b7)).freeB hp g7) upd_same <;> omega
  · walk_at "rd"
    intro p hp
    refine q _ (1 + r2) p _ ?_ ?_ (by omega) (by omega) (bt.new hp) (g5.new hp) (bt.freeB hp g5) upd_same <;> omega
/-- ttI's size -/
theorem ttI_le {n s : Int} (hn : 1 ≤ n) (h : n ≤ 2 ^ 101) (hs : 1 ≤ s) : 0 ≤ ttI n s ∧ ttI n s ≤ 2 ^ 202 := by
  refine ⟨tt_nn hn (by omega), ?_⟩
  have a := rhoI_nn hn hs
  have b := rhoI_lt hn hs
  rw [ttI_eq (by omega)]
  unfold ggI
  have c : 0 ≤ rcI (s + 1) (rhoI n s - 1) := rc_nn _ _
  have d : rhoI n s * n ≤ 2 ^ 101 * 2 ^ 101 := Int.le_trans (Int.mul_le_mul_of_nonneg_right (show rhoI n s ≤ 2 ^ 101 by omega) (by omega)) (Int.mul_le_mul_of_nonneg_left h (by decide))
  omega
theorem lossI_le {n s m : Int} (h : n ≤ 2 ^ 100) (hs : 2 ≤ s) (h1 : 1 ≤ m) (h2 : m < n) : (lossI n s m).natAbs.log2 < 1920 := by
  have a := ttI_le (n := n - m) (s := s - 1) (by omega) (by omega) (by omega)
  have b := ttI_le (n := m) (s := s) (by omega) (by omega) (by omega)
  have c := ttI_le (n := n) (s := s) (by omega) (by omega) (by omega)
  refine Nat.lt_of_lt_of_le (PySem.Flt.log2_lt_of (k := 210) (by decide) ?_) (by decide)
  unfold lossI
  omega
/-- a list of ints that are states -/
def Mid (n : Int) (xs : List Int) : Prop := ∀ x ∈ xs, 1 ≤ x ∧ x < n
theorem Mid.app {n : Int} {xs : List Int} {x : Int} (h : Mid n xs) (h1 : 1 ≤ x) (h2 : x < n) : Mid n (xs ++ [x]) := fun y hy => by
  rcases List.mem_append.mp hy with q | q
  · exact h y q
  · rw [List.mem_singleton.mp q]; exact ⟨h1, h2⟩
theorem Mid.cat {n : Int} {xs ys : List Int} (h : Mid n xs) (h2 : Mid n ys) : Mid n (xs ++ ys) := fun y hy => (List.mem_append.mp hy).elim (h y) (h2 y)
theorem near_fact {n s z : Int} (hn : 2 ≤ n) (hs : 2 ≤ s) (h1 : 1 ≤ z) (h2 : z < n) : ∃ m, z + (if decide (z < loI n s) = true then 1 else 0) - (if decide (hiI n s < z) = true then 1 else 0) = m ∧ 1 ≤ m ∧ m < n ∧ lossI n s m ≤ lossI n s z := by
  obtain ⟨R1, R2, R3⟩ := rangeI hn hs
  by_cases c : z < loI n s
  · rw [if_pos (decide_eq_true c), if_neg (by rw [decide_eq_true_eq]; omega)]
    exact ⟨z + 1, by omega, by omega, by omega, lossI_falls hn hs h1 c⟩
  · rw [if_neg (by rw [decide_eq_true_eq]; exact c)]
    by_cases d : hiI n s < z
    · rw [if_pos (decide_eq_true d)]
      exact ⟨z - 1, by omega, by omega, by omega, lossI_rises hn hs d h2⟩
    · rw [if_neg (by rw [decide_eq_true_eq]; exact d)]
      exact ⟨z, by omega, h1, h2, Int.le_refl _⟩
theorem snoc_map (xs : List Int) (x : Int) : xs.map V.int ++ [.int x] = (xs ++ [x]).map V.int := by simp
theorem pure_l_right (h : sp_l_right K vs H Q E) : t_l_right K { nx := fun _ H' => Q .non H', rt := Q } (start n_l_right vs) H := by
  obtain ⟨a, rfl, hb, q⟩ := h
  show t_l_right K _ [some (.ref a), none, none, none, none, none, none, none, none, none] H
  unfold t_l_right
  walk_at "rd"
  refine ⟨a, rfl, hb, fun n s p1 H1 h1 h2 h3 h4 b1 g1 _ e1 => ?_⟩
  walk_at "rd"
  refine r_ite (fun c => ?_) fun c => ?_
  · walk_at "rd"
    refine ⟨n, s, rfl, h1, h2, h3, h4, fun _ H2 s2 => ?_, fun c1 c2 => by omega⟩
    walk_at "rd"
    exact q _ (b1.trans (But.of s2)) (g1.at s2)
  walk_at "rd"
  refine r_ite (fun d => ?_) fun d => ?_
  · walk_at "rd"
    refine ⟨n, s, rfl, h1, h2, h3, h4, fun _ H2 s2 => ?_, fun c1 c2 => by omega⟩
    walk_at "rd"
    exact q _ (b1.trans (But.of s2)) (g1.at s2)
  walk_at "rd"
  have hn : 2 ≤ n := by omega
  have hs : 2 ≤ s := by omega
  obtain ⟨R1, R2, R3⟩ := rangeI hn hs
  refine ⟨n, s, rfl, h1, h2, h3, h4, fun c1 => by omega, fun _ _ p2 H2 s2 _ e2 => ?_⟩
  walk_at "rd"
  refine r_yes R1 ?_
  walk_at "rd"
  refine r_yes R2 ?_
  walk_at "rd"
  rw [decide_eq_true R3]
  walk_at "rd"
  have b2 : But a H H2 := b1.trans (But.of s2)
  have g2 := g1.at s2
  refine ⟨a, hiI n s - loI n s + 1, rfl, by omega, by omega, g2, fun r3 H3 k1 k2 b3 g3 => ?_⟩
  walk_at "rd"
  intro p4 hp4
  walk_at "rd"
  intro D hD
  have nD := (g3.new hp4).ne hD
  have n4 := g3.ne hp4
  have n4D : p4 ≠ D := ne_none hD upd_same
  refine lc_range (fun i H' => But a H H' ∧ Bag H' a ∧ H' p4 = some (.lst ([loI n s, hiI n s, loI n s + r3].map V.int)) ∧ ∃ xs : List Int, H' D = some (.lst (xs.map V.int)) ∧ xs.length = i ∧ Mid n xs) ?_ ?_ ?_
  · refine ⟨(((b2.trans b3).new hp4)).new hD, (g3.new hp4).new hD, ?_, [], upd_same, rfl, fun x hx => nomatch hx⟩
    exact (upd_ne n4D).trans upd_same
  · rintro i H4 hi ⟨b4, g4, e4, xs, e5, e6, e7⟩
    walk_at "rd"
    refine ⟨a, n - 1, rfl, by omega, by omega, g4, fun r5 H5 l1 l2 b5 g5 => ?_⟩
    walk_at "rd"
    refine ⟨_, b5.get e5 nD, sz_lt (by rw [List.length_map]; omega), ?_⟩
    refine ⟨(b4.trans b5).mut ((b2.trans b3).freeB ?_ g3), g5.upd (Ne.symm nD), (upd_ne n4D).trans (b5.get e4 n4), xs ++ [1 + r5], ?_, by simp [e6], e7.app (by omega) (by omega)⟩
    · exact (upd_ne (Ne.symm n4D)).symm.trans hD
    · rw [upd_same, snoc_map]
  · rintro H4 ⟨b4, g4, e4, xs, e5, e6, e7⟩
    refine r_cat e4 e5 (by simp [e6]) ?_
    intro p6 hp6
    have n6 := g4.ne hp6
    walk_at "rd"
    intro p8 hp8
    have n68 : p6 ≠ p8 := ne_none hp8 upd_same
    have n8 := (g4.new hp6).ne hp8
    refine r_refT (SqT.of upd_same) ?_
    intro D2 hD2
    have n6D : p6 ≠ D2 := ne_none hD2 ((upd_ne n68).trans upd_same)
    have n8D : p8 ≠ D2 := ne_none hD2 upd_same
    have nD2 := ((g4.new hp6).new hp8).ne hD2
    refine lc_tup (K := K) (a := p8) (xs := [.int (loI n s - 1), .int (hiI n s + 1)]) (fun i H' => But a H H' ∧ Bag H' a ∧ H' p6 = some (.lst (([loI n s, hiI n s, loI n s + r3] ++ xs).map V.int)) ∧ H' p8 = some (.tup [.int (loI n s - 1), .int (hiI n s + 1)]) ∧
      ∃ zs : List Int, H' D2 = some (.lst (zs.map V.int)) ∧ zs.length ≤ i ∧ Mid n zs) ?_ ?_ ?_ ?_
    · refine ⟨((b4.new hp6).new hp8).new hD2, ((g4.new hp6).new hp8).new hD2, ?_, (upd_ne n8D).trans upd_same, [], upd_same, Nat.le_refl _, fun x hx => nomatch hx⟩
      rw [List.map_append]
      exact (upd_ne n6D).trans ((upd_ne n68).trans upd_same)
    · rintro i H5 _ ⟨_, _, _, e, _⟩
      exact SqT.of e
    · rintro i x H5 hx ⟨b5, g5, f6, f8, zs, f1, f2, f3⟩
      obtain ⟨z, rfl⟩ : ∃ z, x = V.int z := by
        have := List.mem_of_getElem? hx
        simp only [List.mem_cons, List.not_mem_nil, or_false] at this
        rcases this with e | e
        · exact ⟨_, e⟩
        · exact ⟨_, e⟩
      have hi : i < 2 := (List.getElem?_eq_some_iff.mp hx).1
      walk_at "rd"
      refine r_ite (fun k1 => ?_) fun k1 => ?_
      · walk_at "rd"
        refine r_ite (fun k2 => ?_) fun k2 => ?_
        · walk_at "rd"
          refine ⟨_, f1, sz_lt (by rw [List.length_map]; omega), ?_⟩
          refine ⟨b5.mut ((b4.freeB ?_ g4)), g5.upd (Ne.symm nD2), (upd_ne n6D).trans f6, (upd_ne n8D).trans f8, zs ++ [z], ?_, by simp [f2], f3.app (by omega) k2⟩
          · exact ((upd_ne (Ne.symm n6D)).symm.trans ((upd_ne (Ne.symm n8D)).symm.trans hD2))
          · rw [upd_same, snoc_map]
        · exact ⟨b5, g5, f6, f8, zs, f1, by omega, f3⟩
      · walk_at "rd"
        exact ⟨b5, g5, f6, f8, zs, f1, by omega, f3⟩
    · rintro H5 ⟨b5, g5, f6, f8, zs, f1, f2, f3⟩
      refine r_cat f6 f1 (by have h2 : zs.length ≤ 2 := f2; simp only [List.length_map, List.length_append, List.length_cons, List.length_nil, e6]; show 3 + 3 + zs.length ≤ 100000; omega) ?_
      intro p9 hp9
      have n9 := g5.ne hp9
      refine r_refL (SqL.of upd_same) ?_
      rw [← List.map_append]
      have M : Mid n ([loI n s, hiI n s, loI n s + r3] ++ xs ++ zs) := by
        refine Mid.cat (Mid.cat (fun y hy => ?_) e7) f3
        simp only [List.mem_cons, List.not_mem_nil, or_false] at hy
        omega
      generalize [loI n s, hiI n s, loI n s + r3] ++ xs ++ zs = items at M ⊢
      refine for_list (K := K) (a := p9) (xs := items.map V.int) (fun i σ H' => But a H H' ∧ Bag H' a ∧ H' p9 = some (.lst (items.map V.int)) ∧ ∃ v5 v6 v7 v8, σ = [some (.ref a), some (.int n), some (.int s), some (.int (loI n s)), some (.int (hiI n s)), v5, v6, v7, v8, none]) ?_ ?_ ?_ ?_
      · exact ⟨b5.new hp9, g5.new hp9, upd_same, _, _, _, _, rfl⟩
      · rintro i σ H6 _ ⟨_, _, e, _⟩
        exact SqL.of e
      · rintro i x σ H6 hx ⟨b6, g6, e9, v5, v6, v7, v8, rfl⟩
        obtain ⟨z, hz, rfl⟩ : ∃ z ∈ items, x = V.int z := by
          obtain ⟨z, hz, e⟩ := List.mem_map.mp (List.mem_of_getElem? hx)
          exact ⟨z, hz, e.symm⟩
        obtain ⟨z1, z2⟩ := M z hz
        walk_at "rd"
        refine ⟨n, s, z, rfl, h2, hs, h4, z1, z2, fun H7 s7 => ?_⟩
        walk_at "rd"
        refine r_reprI (lossI_le (by omega) hs z1 z2) ?_
        walk_at "rd"
        refine ⟨n, s, z, rfl, h2, hs, h4, z1, z2, fun H8 s8 => ?_⟩
        walk_at "rd"
        refine r_reprI (lossI_le (by omega) hs z1 z2) ?_
        walk_at "rd"
        have k0 := lossI_0 hn hs z1 z2
        refine r_ite (fun k1 => ?_) fun k1 => ?_
        · walk_at "rd"
          have key : decide (lossI n s z = 0) = decide (z ≤ hiI n s) := decide_eq_decide.mpr (by rw [k0]; exact ⟨fun h => h.2, fun h => ⟨k1, h⟩⟩)
          rw [key, beq_self_eq_true]
          walk_at "rd"
          obtain ⟨m, em, m1, m2, m3⟩ := near_fact hn hs z1 z2
          rw [em]
          refine ⟨n, s, m, rfl, h2, hs, h4, m1, m2, fun H9 s9 => ?_⟩
          walk_at "rd"
          refine r_no (by omega) ?_
          walk_at "rd"
          have sx := (s7.trans s8).trans s9
          exact ⟨b6.trans (But.of sx), g6.at sx, sx _ _ e9, _, _, _, _, rfl⟩
        · walk_at "rd"
          have key : decide (lossI n s z = 0) = false := decide_eq_false (by rw [k0]; exact fun h => k1 h.1)
          rw [key, beq_self_eq_true]
          walk_at "rd"
          obtain ⟨m, em, m1, m2, m3⟩ := near_fact hn hs z1 z2
          rw [em]
          refine ⟨n, s, m, rfl, h2, hs, h4, m1, m2, fun H9 s9 => ?_⟩
          walk_at "rd"
          refine r_no (by omega) ?_
          walk_at "rd"
          have sx := (s7.trans s8).trans s9
          exact ⟨b6.trans (But.of sx), g6.at sx, sx _ _ e9, _, _, _, _, rfl⟩
      · rintro σ H6 ⟨b6, g6, e9, v5, v6, v7, v8, rfl⟩
        walk_at "rd"
        exact q _ b6 g6
theorem script_int {K : PySem.W.Frag} {ns : List Int} {i : Nat} {x : V} (h : (cutV (ns.map V.int) none (some 6) ++ [.int 0])[i]? = some x) : ∃ z, x = .int z := by
  rcases List.mem_append.mp (List.mem_of_getElem? h) with q | q
  · obtain ⟨z, _, e⟩ := cut_int q
    exact ⟨z, e⟩
  · exact ⟨0, List.mem_singleton.mp q⟩
theorem pure_law_k11 (h : sp_law_k11 K vs H Q E) : t_law_k11 K { nx := fun _ H' => Q .non H', rt := Q } (start n_law_k11 vs) H := by
  obtain ⟨a, ns, rfl, hS, hl, q⟩ := h
  show t_law_k11 K _ [some (.ref a), none, none, none] H
  unfold t_law_k11
  walk_at "rd"
  refine r_slL hS ?_
  intro p1 hp1
  walk_at "rd"
  intro p2 hp2
  have n12 : p1 ≠ p2 := ne_none hp2 upd_same
  have cl := cutV_length (ns.map V.int) none (some 6)
  rw [List.length_map] at cl
  refine r_cat ((upd_ne n12).trans upd_same) upd_same (by show _ + 1 ≤ 100000; omega) ?_
  intro p3 hp3
  refine r_refL (SqL.of upd_same) ?_
  refine for_list (K := K) (a := p3) (xs := cutV (ns.map V.int) none (some 6) ++ [.int 0]) (fun i σ H' => H' p3 = some (.lst (cutV (ns.map V.int) none (some 6) ++ [.int 0])) ∧ ∃ v1 v2 v3, σ = [some (.ref a), v1, v2, v3]) ?_ ?_ ?_ ?_
  · exact ⟨upd_same, none, none, none, rfl⟩
  · rintro i σ H1 _ ⟨e, _⟩
    exact SqL.of e
  · rintro i x σ H1 hx ⟨e1, v1, v2, v3, rfl⟩
    obtain ⟨z, rfl⟩ := script_int (K := K) hx
    walk_at "rd"
    refine ⟨z, rfl, fun p4 H2 s2 hp4 g2 => ?_⟩
    walk_at "rd"
    have n34 : p3 ≠ p4 := ne_none hp4 e1
    refine for_range (fun i σ H' => H' p3 = some (.lst (cutV (ns.map V.int) none (some 6) ++ [.int 0])) ∧ Bag H' p4 ∧ ∃ v3, σ = [some (.ref a), some (.int z), some (.ref p4), v3]) ?_ ?_ ?_
    · exact ⟨s2 _ _ e1, g2, v3, rfl⟩
    · rintro j σ H3 hj ⟨e3, g3, v3, rfl⟩
      walk_at "rd"
      refine ⟨p4, rfl, g3, fun H4 b4 g4 => ?_⟩
      walk_at "rd"
      exact ⟨b4.get e3 n34, g4, _, rfl⟩
    · rintro σ H3 ⟨e3, g3, v3, rfl⟩
      walk_at "rd"
      exact ⟨e3, _, _, _, rfl⟩
  · rintro σ H1 ⟨e1, v1, v2, v3, rfl⟩
    walk_at "rd"
    refine ⟨_, 1, rfl, by omega, by omega, by omega, by omega, fun _ H2 s2 => ?_, fun _ h => by omega⟩
    walk_at "rd"
    refine ⟨_, 100, 1, rfl, by omega, by omega, by omega, by omega, by omega, fun H3 s3 => ?_⟩
    walk_at "rd"
    have f := lossI_nn (n := 1000000000000000000000000000000) (s := 100) (m := 1) (by omega) (by omega) (by omega) (by omega)
    have g : lossI 1000000000000000000000000000000 100 1 ≠ 0 := by
      rw [Ne, lossI_0 (by omega) (by omega) (by omega) (by omega)]
      rintro ⟨h1, h2⟩
      have R := rho_is (n := 1000000000000000000000000000000) (s := 100) (by omega) (by omega)
      have c2 : rc 100 2 = 5151 := (rcC_eq (by omega) 100).symm.trans (by decide +kernel)
      have r3 : 3 ≤ rho 1000000000000000000000000000000 100 := by
        apply Decidable.byContradiction
        intro c
        have := rc_mono (s := 100) (r := rho 1000000000000000000000000000000 100) (q := 2) (by omega)
        have := R.hi
        omega
      rw [loI_eq (by omega) (by omega)] at h1
      have c1 : rc 100 1 = 101 := (rcC_eq (by omega) 100).symm.trans (by decide +kernel)
      have := rc_mono (s := 100) (r := 1) (q := rho 1000000000000000000000000000000 100 - 2) (by omega)
      unfold spLo at h1
      rw [show Int.toNat 100 = 100 from rfl] at h1
      omega
    rw [decide_eq_true (show (0 : Int) < lossI 1000000000000000000000000000000 100 1 by omega)]
    exact q _
end
end Bs

namespace Bs
open PySem PySem.Spec L2 Bm
open PyProof.Rows hiding St
/-! ### min of a list of tuples of ints: the comparisons lean on the heap, so the loop's rule is said once more over what stands -/
/-- comparisons that are decided wherever g₀ stands -/
def CmpH (prog : Program) (w : World) (A : Around) (g₀ : Heap) (P : Nat → Value → Prop) (bt : Nat → Nat → Bool) : Prop :=
  ∀ i j vi vj (s : Shared) (Q : Value → Shared → Prop) (E : Value → Shared → Prop), (∀ b o, g₀.get? b = some o → s.heap.get? b = some o) → P i vi → P j vj → Q (.bool (bt i j)) s → wpAny (model prog w) A (richCompare .Lt vi vj) Q E s
section
variable {prog : Program} {w : World} {A : Around} {R : Result → Shared → Prop} {it : Addr} {fp wr : List Addr} {n : Nat} {P : Nat → Value → Prop} {Sp_ : Nat → Heap → Prop} {g₀ : Heap} {L : Addr} {bt : Nat → Nat → Bool}
theorem min_turns (Wk : Walks prog w A.in1 it fp wr n P Sp_) (cmp : CmpH prog w A.in1 g₀ P bt) (outf : L ∉ fp) (w0 : ∀ b ∈ wr, g₀.get? b = none) (l0 : g₀.get? L = none) :
    ∀ (k j : Nat) (s : Shared) (best : Value) (c : Nat), n - (j + 1) = k → j + 1 ≤ n → Sp_ (j + 1) s.heap → P (argBest bt j) best → (∀ b o, g₀.get? b = some o → s.heap.get? b = some o) →
    s.heap.get? L = some { cls := .type "list", dict := none, data := .seq #[best, best] c, slots := #[] } →
    (∀ v h' tk, P (argBest bt (n - 1)) v → (∀ b o, b ∉ wr → b ≠ L → s.heap.get? b = some o → h'.get? b = some o) → R (.ok (.ret v)) { s with heap := h', toks := tk }) →
    codeAny (model prog w) A (.builtin "min.loop" ⟨[.ref it, .none, .ref L], []⟩) R s := by
  have outw : L ∉ wr := fun h => outf (Wk.sub _ h)
  have nameIs : (toString "min" ++ toString ".loop" : String) = "min.loop" := by decide
  have stays : ∀ {g g' : Heap}, (∀ b o, g₀.get? b = some o → g.get? b = some o) → (∀ b o, b ∉ wr → g.get? b = some o → g'.get? b = some o) → ∀ b o, g₀.get? b = some o → g'.get? b = some o := fun a b c o e => b c o (fun hm => by rw [w0 c hm] at e; cases e) (a c o e)
  intro k
  induction k with
  | zero =>
    intro j s best c ek ej hst pb st0 eL toR
    have ein : j + 1 = n := by omega
    refine codeAny_builtin PySem.F.entry_min_loop ?_
    rw [Around.under_plainId PySem.F.plain_min_loop _]
    show wpAny (model prog w) A.in1 (seqItems? (.ref L) >>= _) _ _ s
    refine wpAny_bind (wpAny_seqItems eL rfl ?_)
    show wpAny (model prog w) A.in1 (tryCatch (pyNext (.ref it)) _ >>= _) _ _ s
    refine wpAny_bind (wpAny_tryCatch (Wk.done s _ _ (ein ▸ hst) fun h1 tk kp => ?_))
    have eL' := kp L _ outw eL
    show wpAny (model prog w) A.in1 (updateSeq L (fun _ => #[]) >>= _) _ _ _
    refine wpAny_bind (wpAny_updateSeq eL' rfl (wpAny_bind (wpAny_letGo (wpAny_pure ?_))))
    exact toR best _ tk (by rw [← ein]; exact pb) fun b o nb nL e => (Heap.get?_update_other _ _ (Ne.symm nL)).trans (kp b o nb e)
  | succ k ih =>
    intro j s best c ek ej hst pb st0 eL toR
    have less : j + 1 < n := by omega
    refine codeAny_builtin PySem.F.entry_min_loop ?_
    rw [Around.under_plainId PySem.F.plain_min_loop _]
    show wpAny (model prog w) A.in1 (seqItems? (.ref L) >>= _) _ _ s
    refine wpAny_bind (wpAny_seqItems eL rfl ?_)
    show wpAny (model prog w) A.in1 (tryCatch (pyNext (.ref it)) _ >>= _) _ _ s
    refine wpAny_bind (wpAny_tryCatch (Wk.item (j + 1) s _ _ less hst fun v h1 tk pv hst' kp => ?_))
    have eL' := kp L _ outw eL
    have st1 : ∀ b o, g₀.get? b = some o → h1.get? b = some o := stays st0 kp
    show wpAny (model prog w) A.in1 (tryCatch (holding [v, v] (richCompare .Lt v best >>= _)) _ >>= _) _ _ _
    refine wpAny_bind (wpAny_tryCatch (wpAny_holding (wpAny_bind (cmp (j + 1) (argBest bt j) v best _ _ _ st1 pv pb ?_))))
    refine wpAny_bind (wpAny_holding (wpAny_truthy_bool (wpAny_bind (wpAny_letGo (wpAny_pure ?_)))))
    cases hb : bt (j + 1) (argBest bt j) with
    | true =>
      simp only [if_true]
      refine wpAny_bind (wpAny_updateSeq eL' rfl (wpAny_bind (wpAny_letGo ?_)))
      rw [nameIs]
      refine wpAny_pure ⟨plainId_quiet PySem.F.plain_min_loop _, ih (j + 1) _ v _ (by omega) less (Wk.frame _ _ _ hst' fun b hbf o e => ?_) (by simp only [argBest, hb, if_true]; exact pv) (fun b o e => ?_) (Heap.get?_update_self _ eL' rfl)
        fun v' h2 tk2 pv' kp2 => ?_⟩
      · exact (Heap.get?_update_other _ _ (fun h : L = b => outf (by rw [h]; exact hbf))).trans e
      · exact (Heap.get?_update_other _ _ (fun h : L = b => by rw [h, e] at l0; cases l0)).trans (st1 b o e)
      · exact toR v' h2 tk2 pv' fun b o nb nL e => kp2 b o nb nL ((Heap.get?_update_other _ _ (Ne.symm nL)).trans (kp b o nb e))
    | false =>
      simp only [Bool.false_eq_true, if_false]
      refine wpAny_bind (wpAny_letGo ?_)
      rw [nameIs]
      refine wpAny_pure ⟨plainId_quiet PySem.F.plain_min_loop _, ih (j + 1) _ best c (by omega) less hst' (by simp only [argBest, hb, Bool.false_eq_true, if_false]; exact pb) st1 eL' fun v' h2 tk2 pv' kp2 => ?_⟩
      exact toR v' h2 tk2 pv' fun b o nb nL e => kp2 b o nb nL (kp b o nb e)
theorem min_first (Wk : Walks prog w A.in1 it fp wr n P Sp_) (cmp : CmpH prog w A.in1 g₀ P bt) (outf : L ∉ fp) (w0 : ∀ b ∈ wr, g₀.get? b = none) (l0 : g₀.get? L = none) (n0 : 0 < n) {s : Shared} {c : Nat} (hst : Sp_ 0 s.heap)
    (st0 : ∀ b o, g₀.get? b = some o → s.heap.get? b = some o) (eL : s.heap.get? L = some { cls := .type "list", dict := none, data := .seq #[] c, slots := #[] })
    (toR : ∀ v h' tk, P (argBest bt (n - 1)) v → (∀ b o, b ∉ wr → b ≠ L → s.heap.get? b = some o → h'.get? b = some o) → R (.ok (.ret v)) { s with heap := h', toks := tk }) :
    codeAny (model prog w) A (.builtin "min.loop" ⟨[.ref it, .none, .ref L], []⟩) R s := by
  have outw : L ∉ wr := fun h => outf (Wk.sub _ h)
  have nameIs : (toString "min" ++ toString ".loop" : String) = "min.loop" := by decide
  refine codeAny_builtin PySem.F.entry_min_loop ?_
  rw [Around.under_plainId PySem.F.plain_min_loop _]
  show wpAny (model prog w) A.in1 (seqItems? (.ref L) >>= _) _ _ s
  refine wpAny_bind (wpAny_seqItems eL rfl ?_)
  show wpAny (model prog w) A.in1 (tryCatch (pyNext (.ref it)) _ >>= _) _ _ s
  refine wpAny_bind (wpAny_tryCatch (Wk.item 0 s _ _ n0 hst fun v h1 tk pv hst' kp => ?_))
  have eL' := kp L _ outw eL
  show wpAny (model prog w) A.in1 (updateSeq L (fun _ => #[v, v]) >>= _) _ _ _
  refine wpAny_bind (wpAny_updateSeq eL' rfl ?_)
  rw [nameIs]
  refine wpAny_pure ⟨plainId_quiet PySem.F.plain_min_loop _, min_turns Wk cmp outf w0 l0 _ 0 _ v _ rfl n0 (Wk.frame _ _ _ hst' fun b hbf o e => ?_) pv (fun b o e => ?_) (Heap.get?_update_self _ eL' rfl) fun v' h2 tk2 pv' kp2 => ?_⟩
  · exact (Heap.get?_update_other _ _ (fun h : L = b => outf (by rw [h]; exact hbf))).trans e
  · refine (Heap.get?_update_other _ _ (fun h : L = b => by rw [h, e] at l0; cases l0)).trans (kp b o (fun hm => ?_) (st0 b o e))
    rw [w0 b hm] at e; cases e
  · exact toR v' h2 tk2 pv' fun b o nb nL e => kp2 b o nb nL ((Heap.get?_update_other _ _ (Ne.symm nL)).trans (kp b o nb e))
end
section
variable {prog : Program} {w : World} {A : Around} {E : Value → Shared → Prop} {s : Shared}
theorem min_walkH {x : Value} {g₀ : Heap} {Q : Value → Shared → Prop} (st0 : ∀ b o, g₀.get? b = some o → b < s.heap.objs.size)
    (h : wpAny (model prog w) A.in1 (pyIter x) (fun iv s₂ => ∃ it fp wr n P Sp_ bt, iv = .ref it ∧ Walks prog w A.in1 it fp wr n P Sp_ ∧ Sp_ 0 s₂.heap ∧ (∀ b ∈ fp, b < s₂.heap.objs.size) ∧ 0 < n ∧ CmpH prog w A.in1 g₀ P bt ∧
      (∀ b ∈ wr, g₀.get? b = none) ∧ (∀ b o, g₀.get? b = some o → s₂.heap.get? b = some o) ∧
      ∀ v h' tk, P (argBest bt (n - 1)) v → (∀ b o, b ∉ wr → s₂.heap.get? b = some o → h'.get? b = some o) → Q v { s₂ with heap := h', toks := tk }) E s) :
    wpAny (model prog w) A (call (.builtin "min") [x]) Q E s := by
  have nameIs : (toString "min" ++ toString ".loop" : String) = "min.loop" := by decide
  refine call_function_tree PySem.F.kind_min PySem.F.plain_min PySem.F.entry_min (PySem.F.args_min1 _) ?_
  show wpAny (model prog w) A.in1 (Builtin.Builtins.bindParams "min" ["key", "default"] 0 ⟨[], []⟩ >>= _) _ _ s
  refine wpAny_bind (wpAny_of_eq (show Builtin.Builtins.bindParams "min" ["key", "default"] 0 ⟨[], []⟩ = pure [none, none] from rfl) (wpAny_bind (wpAny_pure ?_)))
  refine wpAny_bind (wpAny_mono h (fun iv s₂ z => ?_) fun _ _ e => e)
  obtain ⟨it, fp, wr, n, P, Sp_, bt, rfl, Wk, hst, fpl, n0, cmp, w0, st1, toQ⟩ := z
  refine wpAny_bind (wpAny_newObj_type ?_)
  have outf : s₂.heap.objs.size ∉ fp := fun hm => Nat.lt_irrefl _ (fpl _ hm)
  have l0 : g₀.get? s₂.heap.objs.size = none := by
    cases e : g₀.get? s₂.heap.objs.size with
    | none => rfl
    | some o => exact absurd (Heap.lt_size (st1 _ o e)) (Nat.lt_irrefl _)
  rw [nameIs]
  refine wpAny_pure ⟨plainId_quiet PySem.F.plain_min_loop _, min_first Wk cmp outf w0 l0 n0 (Wk.frame _ _ _ hst fun b _ o e => Heap.get?_push_of_some _ e) (fun b o e => Heap.get?_push_of_some _ (st1 b o e)) (Heap.get?_push_size _ rfl) fun v h' tk pv kp => ?_⟩
  exact toQ v h' tk pv fun b o nb e => kp b o nb (Nat.ne_of_lt (Heap.lt_size e)) (Heap.get?_push_of_some _ e)
end
/-! the best of the comparisons -/
theorem argBest_le (bt : Nat → Nat → Bool) : ∀ k, argBest bt k ≤ k
  | 0 => Nat.le_refl _
  | k + 1 => by
    unfold argBest
    have := argBest_le bt k
    split <;> omega
/-- none of the first k is less than the best one, where «less» goes on -/
theorem argBest_least (bt : Nat → Nat → Bool) (tr : ∀ a b c, bt a b = true → bt c b = false → bt c a = false) (irr : ∀ a, bt a a = false) : ∀ k j, j ≤ k → bt j (argBest bt k) = false
  | 0, j, h => by
    rw [show j = 0 by omega]
    exact irr 0
  | k + 1, j, h => by
    unfold argBest
    by_cases c : bt (k + 1) (argBest bt k) = true
    · rw [if_pos c]
      by_cases e : j = k + 1
      · rw [e]; exact irr _
      · exact tr (k + 1) (argBest bt k) j c (argBest_least bt tr irr k j (by omega))
    · rw [if_neg c]
      by_cases e : j = k + 1
      · rw [e]; simpa using c
      · exact argBest_least bt tr irr k j (by omega)
def rMinT (K : PySem.W.Frag) : List V → Hp → VK → Prop := fun vs H Q => ∃ (a : Addr) (xs : List V) (key : V → List Int), vs = [.ref a] ∧ SqL K H a xs ∧ xs ≠ [] ∧ (∀ x ∈ xs, ∃ t, x = .ref t ∧ SqT K H t ((key x).map V.int)) ∧
  ∀ x, x ∈ xs → (∀ y ∈ xs, HT.lexLt (key y) (key x) = false) → Q x H
theorem lex_irr : ∀ l : List Int, HT.lexLt l l = false
  | [] => rfl
  | x :: l => by rw [HT.lexLt_cons, if_pos rfl]; exact lex_irr l
theorem lex_tr : ∀ a b c : List Int, HT.lexLt a b = true → HT.lexLt c b = false → HT.lexLt c a = false
  | [], [], c, h, _ => by rw [HT.lexLt_nil_nil] at h; cases h
  | x :: a, [], c, h, _ => by rw [HT.lexLt_cons_nil] at h; cases h
  | [], y :: b, c, _, h => by
    cases c with
    | nil => rw [HT.lexLt_nil_cons] at h; cases h
    | cons z c => exact HT.lexLt_cons_nil z c
  | x :: a, y :: b, c, h1, h2 => by
    cases c with
    | nil => rw [HT.lexLt_nil_cons] at h2; cases h2
    | cons z c =>
      rw [HT.lexLt_cons] at h1 h2 ⊢
      by_cases e1 : x = y
      · subst e1
        rw [if_pos rfl] at h1
        by_cases e2 : z = x
        · subst e2
          rw [if_pos rfl] at h2 ⊢
          exact lex_tr a b c h1 h2
        · rw [if_neg e2] at h2 ⊢
          exact h2
      · rw [if_neg e1] at h1
        have l1 := of_decide_eq_true h1
        by_cases e2 : z = y
        · rw [if_neg (by omega)]
          exact decide_eq_false (by omega)
        · rw [if_neg e2] at h2
          have l2 := of_decide_eq_false h2
          rw [if_neg (by omega)]
          exact decide_eq_false (by omega)
section
variable {X : Cx}
theorem cr_minT {k : Nat} (hr : Room k X.A) (hc : X.calm = true) : CallR X (.builtin "min") (rMinT X.K) := by
  intro pins s σ H vs us Q I r h
  obtain ⟨a, xs, key, rfl, hs, hne, hk, q⟩ := h
  obtain ⟨its, rv, hl, _⟩ := I.list hs
  rw [Vals.ref1 r]
  have hlen := rv.length
  have hpos : 0 < its.toArray.size := by
    rw [List.size_toArray, ← hlen]
    exact List.length_pos_iff.mpr hne
  have hL : s.heap.IsList a its.toArray := hl.isList
  have hlt : a < s.heap.objs.size := by obtain ⟨_, e, _⟩ := hL; exact Heap.lt_size e
  have hu := hr.units
  refine min_walkH (g₀ := s.heap) (fun b o e => Heap.lt_size e) (wpAny_pyIter_list hL ?_)
  have keyOf : ∀ (i : Nat) (v : Value), its.toArray[i]? = some v → ∃ x t, xs[i]? = some x ∧ x = V.ref t ∧ v = .ref t ∧ SqT X.K H t ((key x).map V.int) := by
    intro i v hv
    rw [List.getElem?_toArray] at hv
    have hi : i < xs.length := by rw [hlen]; exact (List.getElem?_eq_some_iff.mp hv).1
    obtain ⟨u, hu2, ru⟩ := rv.get (List.getElem?_eq_getElem hi)
    rw [hv] at hu2
    cases hu2
    obtain ⟨t, e, ht⟩ := hk xs[i] (List.getElem_mem hi)
    rw [e] at ru
    exact ⟨xs[i], t, List.getElem?_eq_getElem hi, e, ru, ht⟩
  refine ⟨_, _, _, _, _, _, (fun i j => HT.lexLt (key (xs.getD i .non)) (key (xs.getD j .non))), rfl, Walks.list (A := X.A.in1) (I.ok.hd hc) _ a (Nat.ne_of_lt hlt) its.toArray, ⟨⟨_, Heap.get?_push_size _ rfl, rfl, rfl⟩, hL.push _⟩, fun b hb => ?_, hpos, ?_, ?_, fun b o e => Heap.get?_push_of_some _ e, fun v h' tk pv kp => ?_⟩
  · show b < (s.heap.push _).objs.size
    rw [Heap.size_push]
    simp only [List.mem_cons, List.not_mem_nil, or_false] at hb
    rcases hb with rfl | rfl
    · exact Nat.lt_succ_self _
    · exact Nat.lt_succ_of_lt hlt
  · intro i j vi vj s' Q' E' st hi hj hq
    obtain ⟨x, t, ex, rfl, rfl, ht⟩ := keyOf i vi hi
    obtain ⟨y, t', ey, rfl, rfl, ht'⟩ := keyOf j vj hj
    obtain ⟨it1, r1, p1, _⟩ := I.tuple ht
    obtain ⟨it2, r2, p2, _⟩ := I.tuple ht'
    have g1 : s'.heap.get? t = some p1.choose := st _ _ p1.choose_spec.1
    have q1 : IsTup s'.heap t it1.toArray := ⟨_, g1, p1.choose_spec.2⟩
    have g2 : s'.heap.get? t' = some p2.choose := st _ _ p2.choose_spec.1
    have q2 : IsTup s'.heap t' it2.toArray := ⟨_, g2, p2.choose_spec.2⟩
    have e1 : xs.getD i .non = V.ref t := by rw [List.getD_eq_getElem?_getD, ex]; rfl
    have e2 : xs.getD j .non = V.ref t' := by rw [List.getD_eq_getElem?_getD, ey]; rfl
    have hq : Q' (.bool (HT.lexLt (key (xs.getD i .non)) (key (xs.getD j .non)))) s' := hq
    rw [e1, e2] at hq
    exact HT.lt_tupInts (A := X.A.in1) q1 q2 (intsAre_of r1) (intsAre_of r2) (by show X.A.units + 1 < cLine; omega) hq
  · intro b hb
    simp only [List.mem_cons, List.not_mem_nil, or_false] at hb
    rw [hb]
    exact Heap.get?_none_of_le (Nat.le_refl _)
  · obtain ⟨x, t, ex, rfl, rfl, ht⟩ := keyOf _ v pv
    have old : ∀ b o, s.heap.get? b = some o → h'.get? b = some o := fun b o e => kp b o (fun hm => by
      simp only [List.mem_cons, List.not_mem_nil, or_false] at hm
      exact absurd (hm ▸ Heap.lt_size e) (Nat.lt_irrefl _)) (Heap.get?_push_of_some _ e)
    refine ⟨.ref t, H, I.kept old, rfl, q _ (List.mem_of_getElem? ex) fun y hy => ?_⟩
    obtain ⟨j, hj, e⟩ := List.mem_iff_getElem.mp hy
    have z := argBest_least (fun i j => HT.lexLt (key (xs.getD i .non)) (key (xs.getD j .non))) (fun _ _ _ => lex_tr _ _ _) (fun _ => lex_irr _) (its.toArray.size - 1) j (by rw [List.size_toArray, ← hlen]; omega)
    have ej : xs.getD j .non = y := by rw [List.getD_eq_getElem?_getD, List.getElem?_eq_getElem hj, e]; rfl
    have eb : xs.getD (argBest (fun i j => HT.lexLt (key (xs.getD i .non)) (key (xs.getD j .non))) (its.toArray.size - 1)) .non = V.ref t := by rw [List.getD_eq_getElem?_getD, ex]; rfl
    rw [← ej, ← eb]
    exact z
end
end Bs

namespace Bm
/-! ### sweeps -/
/-- the steps of a sweep over the states from a on: to the next cut, what is behind it, the part ahead of it -/
def swp (n : Int) : Int → Int → List Int → Int
  | s, a, [] => ttI (n - a) s
  | s, a, c :: cs => (c - a) + ttI (c - a) s + swp n (s - 1) c cs
/-- ascending states between a and n -/
def Asc (n : Int) : Int → List Int → Prop
  | _, [] => True
  | a, c :: cs => a < c ∧ c < n ∧ Asc n c cs
theorem swp_ge {n : Int} : ∀ (cs : List Int) (s a : Int), Asc n a cs → (cs.length : Int) < s → a < n → ttI (n - a) s ≤ swp n s a cs
  | [], _, _, _, _, _ => Int.le_refl _
  | c :: cs, s, a, h, hl, ha => by
    obtain ⟨h1, h2, h3⟩ := h
    rw [List.length_cons] at hl
    have ih := swp_ge cs (s - 1) c h3 (by omega) h2
    have L := lossI_nn (n := n - a) (s := s) (m := c - a) (by omega) (by omega) (by omega) (by omega)
    unfold lossI at L
    rw [show n - a - (c - a) = n - c by omega] at L
    unfold swp
    omega
/-- what the plan keeps ahead of its first back: f turns at most, begin, states left, slots -/
def bcut : Nat → Int → Int → Int → List Int
  | 0, _, _, _ => []
  | f + 1, b, l, s => if 1 < l ∧ 1 < s then (if 1 < l - hiI l s then [b + hiI l s] else []) ++ bcut f (b + hiI l s) (l - hiI l s) (s - 1) else []
theorem bcut_1 (f : Nat) (b s : Int) : bcut f b 1 s = [] := by
  cases f with
  | zero => rfl
  | succ f => unfold bcut; rw [if_neg (by omega)]
theorem bcut_s {f : Nat} {b l s : Int} (h : s ≤ 1) : bcut f b l s = [] := by
  cases f with
  | zero => rfl
  | succ f => unfold bcut; rw [if_neg (by omega)]
theorem bcut_go {f : Nat} {b l s : Int} (h1 : 1 < l) (h2 : 1 < s) (h3 : 1 < l - hiI l s) : bcut (f + 1) b l s = (b + hiI l s) :: bcut f (b + hiI l s) (l - hiI l s) (s - 1) := by
  conv => lhs; unfold bcut
  rw [if_pos ⟨h1, h2⟩, if_pos h3]
  rfl
theorem bcut_end {f : Nat} {b l s : Int} (h1 : 1 < l) (h2 : 1 < s) (h3 : ¬ 1 < l - hiI l s) : bcut (f + 1) b l s = [] := by
  have R := rangeI (n := l) (s := s) (by omega) (by omega)
  conv => lhs; unfold bcut
  rw [if_pos ⟨h1, h2⟩, if_neg h3, show l - hiI l s = 1 by omega, bcut_1]
  rfl
theorem hi_sum {l s : Int} (h1 : 2 ≤ l) (h2 : 2 ≤ s) : hiI l s + ttI (l - hiI l s) (s - 1) + ttI (hiI l s) s = ttI l s := by
  have R := rangeI h1 h2
  have := (lossI_0 (m := hiI l s) h1 h2 (by omega) (by omega)).mpr ⟨by omega, by omega⟩
  unfold lossI at this
  omega
theorem bcut_take : ∀ (f : Nat) (b l s : Int) (k : Nat), 1 ≤ l → 1 ≤ s → swp (b + l) s b ((bcut f b l s).take k) = ttI l s
  | 0, b, l, s, k, _, _ => by
    unfold bcut
    rw [List.take_nil]
    show ttI (b + l - b) s = _
    rw [show b + l - b = l by omega]
  | f + 1, b, l, s, k, h1, h2 => by
    have nil : swp (b + l) s b [] = ttI l s := by
      show ttI (b + l - b) s = _
      rw [show b + l - b = l by omega]
    by_cases c : 1 < l ∧ 1 < s
    · have R := rangeI (n := l) (s := s) (by omega) (by omega)
      by_cases d : 1 < l - hiI l s
      · rw [bcut_go c.1 c.2 d]
        cases k with
        | zero => exact nil
        | succ k =>
          rw [List.take_succ_cons]
          have ih := bcut_take f (b + hiI l s) (l - hiI l s) (s - 1) k (by omega) (by omega)
          rw [show b + hiI l s + (l - hiI l s) = b + l by omega] at ih
          unfold swp
          rw [ih, show b + hiI l s - b = hiI l s by omega]
          have := hi_sum (l := l) (s := s) (by omega) (by omega)
          omega
      · rw [bcut_end c.1 c.2 d, List.take_nil]
        exact nil
    · unfold bcut
      rw [if_neg c, List.take_nil]
      exact nil
theorem bcut_ok : ∀ (f : Nat) (b l s : Int), 1 ≤ l → 1 ≤ s → Asc (b + l) b (bcut f b l s) ∧ ((bcut f b l s).length : Int) < s
  | 0, b, l, s, _, _ => ⟨trivial, by show ((0 : Nat) : Int) < s; omega⟩
  | f + 1, b, l, s, h1, h2 => by
    by_cases c : 1 < l ∧ 1 < s
    · have R := rangeI (n := l) (s := s) (by omega) (by omega)
      by_cases d : 1 < l - hiI l s
      · rw [bcut_go c.1 c.2 d]
        have ih := bcut_ok f (b + hiI l s) (l - hiI l s) (s - 1) (by omega) (by omega)
        rw [show b + hiI l s + (l - hiI l s) = b + l by omega] at ih
        refine ⟨⟨by omega, by omega, ih.1⟩, ?_⟩
        rw [List.length_cons]
        have := ih.2
        omega
      · rw [bcut_end c.1 c.2 d]
        exact ⟨trivial, by show ((0 : Nat) : Int) < s; omega⟩
    · unfold bcut
      rw [if_neg c]
      exact ⟨trivial, by show ((0 : Nat) : Int) < s; omega⟩
def bestCuts (n s : Int) : List Int := bcut s.toNat 0 n s
theorem bestCuts_take {n s : Int} (hn : 1 ≤ n) (hs : 1 ≤ s) (k : Nat) : swp n s 0 ((bestCuts n s).take k) = ttI n s := by
  have := bcut_take s.toNat 0 n s k hn hs
  rwa [Int.zero_add] at this
theorem bestCuts_ok {n s : Int} (hn : 1 ≤ n) (hs : 1 ≤ s) : Asc n 0 (bestCuts n s) ∧ ((bestCuts n s).length : Int) < s := by
  have := bcut_ok s.toNat 0 n s hn hs
  rwa [Int.zero_add] at this
theorem bestCuts_sum {n s : Int} (hn : 1 ≤ n) (hs : 1 ≤ s) : swp n s 0 (bestCuts n s) = ttI n s := by
  have := bestCuts_take hn hs (bestCuts n s).length
  rwa [List.take_length] at this
theorem bestCuts_head {n s : Int} (hn : 2 ≤ n) (hs : 2 ≤ s) : (1 < n - hiI n s → ∃ cs, bestCuts n s = hiI n s :: cs) ∧ (¬ 1 < n - hiI n s → bestCuts n s = []) := by
  unfold bestCuts
  obtain ⟨f, e⟩ : ∃ f, s.toNat = f + 1 := ⟨s.toNat - 1, by omega⟩
  rw [e]
  constructor
  · intro h
    rw [bcut_go (by omega) (by omega) h, Int.zero_add]
    exact ⟨_, rfl⟩
  · intro h
    exact bcut_end (by omega) (by omega) h
/-! the same sum as the code has it -/
def lastD (a : Int) (cs : List Int) : Int := cs.getLastD a
def parts : Int → Int → List Int → Int
  | _, _, [] => 0
  | s, a, c :: cs => ttI (c - a) s + parts (s - 1) c cs
theorem lastD_cons (a c : Int) (cs : List Int) : lastD a (c :: cs) = lastD c cs := by
  unfold lastD
  cases cs <;> simp [List.getLastD]
theorem lastD_snoc (a c : Int) (cs : List Int) : lastD a (cs ++ [c]) = c := by
  unfold lastD
  simp [List.getLastD_eq_getLast?]
theorem parts_snoc : ∀ (cs : List Int) (s a c : Int), parts s a (cs ++ [c]) = parts s a cs + ttI (c - lastD a cs) (s - cs.length)
  | [], s, a, c => by
    show ttI (c - a) s + 0 = 0 + ttI (c - a) (s - ((0 : Nat) : Int))
    rw [show s - ((0 : Nat) : Int) = s by omega]; omega
  | d :: cs, s, a, c => by
    show ttI (d - a) s + parts (s - 1) d (cs ++ [c]) = ttI (d - a) s + parts (s - 1) d cs + ttI (c - lastD a (d :: cs)) (s - ((cs.length + 1 : Nat) : Int))
    rw [parts_snoc cs (s - 1) d c, lastD_cons, show s - 1 - (cs.length : Int) = s - ((cs.length + 1 : Nat) : Int) by omega]
    omega
theorem swp_parts {n : Int} : ∀ (cs : List Int) (s a : Int), swp n s a cs = (lastD a cs - a) + ttI (n - lastD a cs) (s - cs.length) + parts s a cs
  | [], s, a => by
    show ttI (n - a) s = (a - a) + ttI (n - a) (s - ((0 : Nat) : Int)) + 0
    rw [show s - ((0 : Nat) : Int) = s by omega]; omega
  | c :: cs, s, a => by
    show (c - a) + ttI (c - a) s + swp n (s - 1) c cs = (lastD a (c :: cs) - a) + ttI (n - lastD a (c :: cs)) (s - ((cs.length + 1 : Nat) : Int)) + (ttI (c - a) s + parts (s - 1) c cs)
    rw [swp_parts cs (s - 1) c, lastD_cons, show s - 1 - (cs.length : Int) = s - ((cs.length + 1 : Nat) : Int) by omega]
    omega
theorem Asc.snoc {n : Int} : ∀ {cs : List Int} {a c : Int}, Asc n a (cs ++ [c]) → lastD a cs < c ∧ c < n
  | [], a, c, h => ⟨h.1, h.2.1⟩
  | d :: cs, a, c, h => by
    rw [lastD_cons]
    exact Asc.snoc (cs := cs) h.2.2
theorem Asc.take {n : Int} : ∀ {cs : List Int} {a : Int} (k : Nat), Asc n a cs → Asc n a (cs.take k)
  | [], _, k, _ => by rw [List.take_nil]; trivial
  | c :: cs, a, 0, _ => trivial
  | c :: cs, a, k + 1, h => ⟨h.1, h.2.1, Asc.take k h.2.2⟩
theorem Asc.last {n : Int} : ∀ {cs : List Int} {a : Int}, Asc n a cs → a ≤ lastD a cs ∧ (a < n → lastD a cs < n)
  | [], a, _ => ⟨Int.le_refl _, fun h => h⟩
  | c :: cs, a, h => by
    rw [lastD_cons]
    have := Asc.last h.2.2
    exact ⟨by have := this.1; have := h.1; omega, fun _ => this.2 h.2.1⟩
theorem Asc.sorted {n : Int} : ∀ {cs : List Int} {a : Int}, Asc n a cs → (∀ c ∈ cs, a < c) ∧ cs.Pairwise (· ≤ ·)
  | [], _, _ => ⟨fun _ h => (List.not_mem_nil h).elim, List.Pairwise.nil⟩
  | c :: cs, a, h => by
    have ih := Asc.sorted h.2.2
    refine ⟨fun d hd => ?_, List.Pairwise.cons (fun d hd => Int.le_of_lt (ih.1 d hd)) ih.2⟩
    rcases List.mem_cons.mp hd with rfl | hd
    · exact h.1
    · have := ih.1 d hd
      have := h.1
      omega
/-! prices -/
def price (n a b s : Int) : Int := s * a + ttI n s * b
theorem ttI_smono {n s q : Int} (hn : 1 ≤ n) (hs : 1 ≤ s) (h : s ≤ q) : ttI n q ≤ ttI n s := by
  obtain ⟨k, e⟩ : ∃ k : Nat, q = s + k := ⟨(q - s).toNat, by omega⟩
  subst e
  clear h
  induction k with
  | zero => simp
  | succ k ih =>
    have := tt_smono (n := n) (s := (s + k).toNat) hn (by omega)
    unfold ttI at ih ⊢
    rw [show (s + ((k + 1 : Nat) : Int)).toNat = (s + k).toNat + 1 by omega]
    omega
theorem ttI_1 {s : Int} (hs : 1 ≤ s) : ttI 1 s = 0 := tt_1 (by omega)
theorem ttI_pos {n s : Int} (hn : 2 ≤ n) (hs : 1 ≤ s) : 1 ≤ ttI n s := by
  have h := tt_step (n := n - 1) (s := s.toNat) (by omega) (by omega)
  rw [show n - 1 + 1 = n by omega] at h
  have a := tt_nn (n := n - 1) (s := s.toNat) (by omega) (by omega)
  have b := rho_pos (n := n) (s := s.toNat) hn (by omega)
  unfold ttI
  omega
end Bm

namespace Bs
open PySem PySem.Spec L2 Bm
open PyProof.Rows hiding St
/-! ### data that are compared -/
section
variable {K : PySem.W.Frag} {H : Hp}
theorem dpa_ints : ∀ ns : List Int, DpAll K H (ns.map V.int) (ns.map PyData.int)
  | [] => .nil
  | n :: ns => .cons (.int n) (dpa_ints ns)
theorem dp_ints {p : Addr} {ns : List Int} (h : SqL K H p (ns.map V.int)) : Dp K H (.ref p) (.list (ns.map PyData.int)) := .lst h (dpa_ints ns)
theorem dp_intsT {p : Addr} {ns : List Int} (h : SqT K H p (ns.map V.int)) : Dp K H (.ref p) (.tuple (ns.map PyData.int)) := .tup h (dpa_ints ns)
end
theorem canAll_ints : ∀ ns : List Int, PyData.canLayAll0 (ns.map PyData.int) = true
  | [] => rfl
  | n :: ns => by
    show (PyData.canLay0 (.int n) && PyData.canLayAll0 (ns.map PyData.int)) = true
    rw [canAll_ints ns]
    rfl
theorem depthAll_ints : ∀ ns : List Int, PyData.depthAll (ns.map PyData.int) = 0
  | [] => rfl
  | n :: ns => by
    show max (PyData.depth (.int n)) (PyData.depthAll (ns.map PyData.int)) = 0
    rw [depthAll_ints ns]
    rfl
theorem shaped_ints (ns : List Int) : SeqAt.shaped (.list (ns.map PyData.int)) = true := by
  unfold SeqAt.shaped
  rw [Bool.and_eq_true]
  refine ⟨canAll_ints ns, decide_eq_true ?_⟩
  show PyData.depthAll (ns.map PyData.int) + 1 ≤ 64
  rw [depthAll_ints]
  decide
theorem shaped_intsT (ns : List Int) : SeqAt.shaped (.tuple (ns.map PyData.int)) = true := by
  unfold SeqAt.shaped
  rw [Bool.and_eq_true]
  refine ⟨canAll_ints ns, decide_eq_true ?_⟩
  show PyData.depthAll (ns.map PyData.int) + 1 ≤ 64
  rw [depthAll_ints]
  decide
theorem eqvAll_ints : ∀ ns ms : List Int, PyData.eqvAll (ns.map PyData.int) (ms.map PyData.int) = decide (ns = ms)
  | [], [] => by rw [decide_eq_true rfl]; rfl
  | [], m :: ms => by rw [decide_eq_false (fun e => nomatch e)]; rfl
  | n :: ns, [] => by rw [decide_eq_false (fun e => nomatch e)]; rfl
  | n :: ns, m :: ms => by
    show ((n == m) && PyData.eqvAll (ns.map PyData.int) (ms.map PyData.int)) = _
    rw [eqvAll_ints ns ms]
    by_cases e : n = m
    · subst e
      simp
    · have : ¬ (n :: ns = m :: ms) := fun h => e (List.cons.inj h).1
      rw [decide_eq_false this, beq_eq_false_iff_ne.mpr e]
      rfl
section
variable {K : PySem.W.Frag} {H : Hp} {Q : VK} {p q : Addr} {ns ms : List Int}
theorem r_eqL (h1 : SqL K H p (ns.map V.int)) (h2 : SqL K H q (ms.map V.int)) (h : Q (.bl (decide (ns = ms))) H) : rEqD K (.ref p) (.ref q) H Q :=
  ⟨_, _, dp_ints h1, dp_ints h2, shaped_ints _, shaped_ints _, by
    show Q (.bl (PyData.eqvAll _ _)) H
    rw [eqvAll_ints]; exact h⟩
theorem r_neL (h1 : SqL K H p (ns.map V.int)) (h2 : SqL K H q (ms.map V.int)) (h : Q (.bl (!decide (ns = ms))) H) : rNeD K (.ref p) (.ref q) H Q :=
  ⟨_, _, dp_ints h1, dp_ints h2, shaped_ints _, shaped_ints _, by
    show Q (.bl (!PyData.eqvAll _ _)) H
    rw [eqvAll_ints]; exact h⟩
theorem r_eqT (h1 : SqT K H p (ns.map V.int)) (h2 : SqT K H q (ms.map V.int)) (h : Q (.bl (decide (ns = ms))) H) : rEqD K (.ref p) (.ref q) H Q :=
  ⟨_, _, dp_intsT h1, dp_intsT h2, shaped_intsT _, shaped_intsT _, by
    show Q (.bl (PyData.eqvAll _ _)) H
    rw [eqvAll_ints]; exact h⟩
theorem r_neT (h1 : SqT K H p (ns.map V.int)) (h2 : SqT K H q (ms.map V.int)) (h : Q (.bl (!decide (ns = ms))) H) : rNeD K (.ref p) (.ref q) H Q :=
  ⟨_, _, dp_intsT h1, dp_intsT h2, shaped_intsT _, shaped_intsT _, by
    show Q (.bl (!PyData.eqvAll _ _)) H
    rw [eqvAll_ints]; exact h⟩
end
/-- two ascending lists with the same items are one -/
theorem sorted_same : ∀ {xs ys : List Int}, xs.Perm ys → xs.Pairwise (· ≤ ·) → ys.Pairwise (· ≤ ·) → xs = ys
  | [], ys, h, _, _ => by rw [List.Perm.nil_eq h]
  | x :: xs, [], h, _, _ => by have := h.length_eq; simp at this
  | x :: xs, y :: ys, h, h1, h2 => by
    have e : x = y := by
      have a : x ∈ y :: ys := h.subset List.mem_cons_self
      have b : y ∈ x :: xs := h.symm.subset List.mem_cons_self
      rcases List.mem_cons.mp a with a | a
      · exact a
      · rcases List.mem_cons.mp b with b | b
        · exact b.symm
        · have := (List.pairwise_cons.mp h1).1 y b
          have := (List.pairwise_cons.mp h2).1 x a
          omega
    subst e
    rw [sorted_same (List.Perm.cons_inv h) (List.pairwise_cons.mp h1).2 (List.pairwise_cons.mp h2).2]
end Bs

namespace Bs
open PySem PySem.Spec L2 Bm
open PyProof.Rows hiding St
/-! ### more readings -/
section
variable {D : Ends} {σ : L2.St} {H : Hp} {Q : VK} {K : PySem.W.Frag} {i j k : Int} {n m o : Nat} {x y v : V} {ta tb te tc td : TE} {t u : TS} {c d : TT} {r : R2}
/-- what comes after a statement, said once -/
theorem r_join (J : L2.St → Hp → Prop) (rest : ∀ σ' H', J σ' H' → u D σ' H') (h : ∀ N : L2.St → Hp → Prop, (∀ σ' H', J σ' H' → N σ' H') → t { D with nx := N } σ H) : tSeq t u D σ H := h (u D) rest
theorem r_jn (J : L2.St → Hp → Prop) (h : ∀ N : L2.St → Hp → Prop, (∀ σ' H', J σ' H' → N σ' H') → t { D with nx := N } σ H) (rest : ∀ σ' H', J σ' H' → u D σ' H') : tSeq t u D σ H := h (u D) rest
theorem r_nn {p : Prop} [Decidable p] {A B : Prop} (hp : p) (h : B) : if (!decide p) = true then A else B := by rw [decide_eq_true hp]; exact r_iteNT h
theorem r_ny {p : Prop} [Decidable p] {A B : Prop} (hp : ¬ p) (h : A) : if (!decide p) = true then A else B := by rw [decide_eq_false hp]; exact r_iteNF h
theorem r_aug {ti : TIp} (h : σ[n]? = some (some x)) (q : te σ H fun y H1 => ti x y H1 fun z H2 => D.nx (σ.set n (some z)) H2) : tAug n te ti D σ H := ⟨x, h, q⟩
theorem r_ipI {f : Int → Int → Int} (h : Q (.int (f i j)) H) : ipI f (.int i) (.int j) H Q := ⟨i, j, rfl, rfl, h⟩
theorem r_bm {T : String} {f : V → List V → Hp → VK → Prop} {tA : TA} (h : te σ H fun x H1 => tyV K T x H1 ∧ tA σ H1 fun xs H2 => f x xs H2 Q) : tBM K T f te tA σ H Q := h
theorem r_tyL {p : Addr} {xs : List V} {P : Prop} (h1 : SqL K H p xs) (h : P) : tyV K "list" (.ref p) H ∧ P := ⟨.inl ⟨rfl, xs, h1⟩, h⟩
theorem r_app {p : Addr} {xs : List V} (h1 : H p = some (.lst xs)) (hl : xs.length < 100000) (h : Q .non (upd H p (.lst (xs ++ [y])))) : rAppend (.ref p) [y] H Q := ⟨p, xs, y, rfl, rfl, h1, sz_lt hl, h⟩
theorem r_enum {tA : TA} {R : It → Hp → Prop} (h : tA σ H fun vs H1 => ∃ a xs, vs = [.ref a] ∧ SqL K H1 a xs ∧ R (Ite K a) H1) : iEnum K tA σ H R := h
theorem r_en {p : Addr} {xs : List V} {R : Addr → Prop} (h1 : SqL K H p xs) (h : R p) : ∃ a xs, [V.ref p] = [.ref a] ∧ SqL K H a xs ∧ R a := ⟨p, xs, rfl, h1, h⟩
theorem r_par3' (h : ta σ H fun x H1 => tb σ H1 fun y H2 => tc σ H2 fun z H3 => D.nx (((σ.set n (some x)).set m (some y)).set o (some z)) H3) : tPar3 n m o (tCons ta (tCons tb (tCons tc tNil))) D σ H := by
  show ta σ H fun x H1 => tb σ H1 fun y H2 => tc σ H2 fun z H3 => ∃ u v w, [x, y, z] = [u, v, w] ∧ D.nx (((σ.set n (some u)).set m (some v)).set o (some w)) H3
  have e : (fun (x : V) (H1 : Hp) => tb σ H1 fun y H2 => tc σ H2 fun z H3 => ∃ u v w, [x, y, z] = [u, v, w] ∧ D.nx (((σ.set n (some u)).set m (some v)).set o (some w)) H3) =
      fun x H1 => tb σ H1 fun y H2 => tc σ H2 fun z H3 => D.nx (((σ.set n (some x)).set m (some y)).set o (some z)) H3 := by
    funext x H1
    congr 1
    funext y H2
    congr 1
    funext z H3
    apply propext
    constructor
    · rintro ⟨u, v, w, e, h⟩
      cases e
      exact h
    · intro h
      exact ⟨x, y, z, rfl, h⟩
  rw [e]
  exact h
theorem r_sum {p : Addr} {ns : List Int} (h1 : SqL K H p (ns.map V.int)) (h : Q (.int ns.sum) H) : rSum K [.ref p] H Q := ⟨p, ns, rfl, h1, h⟩
theorem r_p20 (h : Q (.int 100000000000000000000) H) : oPowA (.int 10) (.int 20) H Q := ⟨10, 20, rfl, rfl, powS (b := 4) (by decide) (by decide) (by decide) (by decide), h⟩
theorem r_p27 (h : Q (.int 1000000000000000000000000000) H) : oPowA (.int 10) (.int 27) H Q := ⟨10, 27, rfl, rfl, powS (b := 4) (by decide) (by decide) (by decide) (by decide), h⟩
theorem r_p29 (h : Q (.int 100000000000000000000000000000) H) : oPowA (.int 10) (.int 29) H Q := ⟨10, 29, rfl, rfl, powS (b := 4) (by decide) (by decide) (by decide) (by decide), h⟩
theorem r_p38 (h : Q (.int 100000000000000000000000000000000000000) H) : oPowA (.int 10) (.int 38) H Q := ⟨10, 38, rfl, rfl, powS (b := 4) (by decide) (by decide) (by decide) (by decide), h⟩
theorem r_p40 (h : Q (.int 10000000000000000000000000000000000000000) H) : oPowA (.int 10) (.int 40) H Q := ⟨10, 40, rfl, rfl, powS (b := 4) (by decide) (by decide) (by decide) (by decide), h⟩
theorem r_p42 (h : Q (.int 1000000000000000000000000000000000000000000) H) : oPowA (.int 10) (.int 42) H Q := ⟨10, 42, rfl, rfl, powS (b := 4) (by decide) (by decide) (by decide) (by decide), h⟩
theorem r_p44 (h : Q (.int 100000000000000000000000000000000000000000000) H) : oPowA (.int 10) (.int 44) H Q := ⟨10, 44, rfl, rfl, powS (b := 4) (by decide) (by decide) (by decide) (by decide), h⟩
theorem r_p49 (h : Q (.int 10000000000000000000000000000000000000000000000000) H) : oPowA (.int 10) (.int 49) H Q := ⟨10, 49, rfl, rfl, powS (b := 4) (by decide) (by decide) (by decide) (by decide), h⟩
theorem r_p50 (h : Q (.int 100000000000000000000000000000000000000000000000000) H) : oPowA (.int 10) (.int 50) H Q := ⟨10, 50, rfl, rfl, powS (b := 4) (by decide) (by decide) (by decide) (by decide), h⟩
theorem r_p60 (h : Q (.int 1000000000000000000000000000000000000000000000000000000000000) H) : oPowA (.int 10) (.int 60) H Q := ⟨10, 60, rfl, rfl, powS (b := 4) (by decide) (by decide) (by decide) (by decide), h⟩
end
theorem sum_snoc (x : Int) : ∀ xs : List Int, (xs ++ [x]).sum = xs.sum + x
  | [] => by simp
  | y :: ys => by rw [List.cons_append, List.sum_cons, sum_snoc x ys, List.sum_cons, Int.add_assoc]
theorem SqL.seq {K : PySem.W.Frag} {H H' : Hp} {a : Addr} {xs : List V} (e : Same H H') (h : SqL K H a xs) : SqL K H' a xs := by
  rcases h with (h | ⟨o, h⟩) | h
  · exact .inl (.inl (e _ _ h))
  · exact .inl (.inr ⟨o, e _ _ h⟩)
  · exact .inr h
/-- a list stays where all but a new object does -/
theorem SqL.keep {K : PySem.W.Frag} {H H' : Hp} {a p : Addr} {xs : List V} (h : SqL K H a xs) (hp : H p = none) (e : But p H H') : SqL K H' a xs := by
  rcases h with (h | ⟨o, h⟩) | h
  · exact .inl (.inl (e _ _ (ne_of_none h hp) h))
  · exact .inl (.inr ⟨o, e _ _ (ne_of_none h hp) h⟩)
  · exact .inr h
end Bs

namespace Bs
open PySem PySem.Spec L2 Bm
open PyProof.Rows hiding St
def sp_require_rounds (_ : PySem.W.Frag) : Sp := fun vs H Q _ => ∃ r, vs = [.int r] ∧ 0 ≤ r ∧ r ≤ 1000 ∧ Q .non H
def sp_reach (_ : PySem.W.Frag) : Sp := fun vs H Q _ => ∃ s r, vs = [.int s, .int r] ∧ 1 ≤ s ∧ s ≤ 100 ∧ 0 ≤ r ∧ r ≤ 1000 ∧ Q (.int (rcI s r)) H
def sp_least_rounds (_ : PySem.W.Frag) : Sp := fun vs H Q _ => ∃ n s, vs = [.int n, .int s] ∧ 1 ≤ n ∧ n ≤ 1000000000000000000000000000000 ∧ 1 ≤ s ∧ s ≤ 100 ∧ ∀ H', Same H H' → Q (.int (rhoI n s)) H'
def sp_least_slots (_ : PySem.W.Frag) : Sp := fun vs H Q _ => ∃ n r s, vs = [.int n, .int r] ∧ 1 ≤ n ∧ n ≤ 1000000000000000000000000000000 ∧ 0 ≤ r ∧ r ≤ 1000 ∧ 1 ≤ s ∧ s ≤ 100 ∧ n ≤ rcI s r ∧
  ∀ t, 1 ≤ t → t ≤ s → n ≤ rcI t r → (∀ q, 1 ≤ q → q < t → rcI q r < n) → Q (.int t) H
def sp_require_number (_ : PySem.W.Frag) : Sp := fun vs H Q _ => ∃ i, vs = [.int i] ∧ 0 ≤ i ∧ Q .non H
def sp_least_steps (_ : PySem.W.Frag) : Sp := fun vs H Q _ => ∃ n s, vs = [.int n, .int s] ∧ 1 ≤ n ∧ n ≤ 1000000000000000000000000000000 ∧ 1 ≤ s ∧ s ≤ 100 ∧ ∀ H', Same H H' → Q (.int (ttI n s)) H'
def sp_slot_gain (_ : PySem.W.Frag) : Sp := fun vs H Q _ => ∃ n s, vs = [.int n, .int s] ∧ 1 ≤ n ∧ n ≤ 1000000000000000000000000000000 ∧ 1 ≤ s ∧ s ≤ 100 ∧ ∀ H', Same H H' → Q (.int (ttI n s - ttI n (s + 1))) H'
def sp_slots_for (_ : PySem.W.Frag) : Sp := fun vs H Q _ => ∃ n m, vs = [.int n, .int m] ∧ 1 ≤ n ∧ n ≤ 1000000000000000000000000000000 ∧ 0 ≤ m ∧
  (∀ s H', 1 ≤ s → s ≤ 100 → ttI n s ≤ m → (∀ t, 1 ≤ t → t < s → m < ttI n t) → Same H H' → Q (.int s) H') ∧ ((∀ t, 1 ≤ t → t ≤ 100 → m < ttI n t) → ∀ H', Same H H' → Q .non H')
def sp_cheapest_slots (_ : PySem.W.Frag) : Sp := fun vs H Q _ => ∃ n a b, vs = [.int n, .int a, .int b] ∧ 1 ≤ n ∧ n ≤ 1000000000000000000000000000000 ∧ 0 ≤ a ∧ a.natAbs < 2 ^ 1000 ∧ 0 ≤ b ∧ b.natAbs < 2 ^ 1000 ∧
  ∀ s p H', 1 ≤ s → s ≤ 100 → (∀ t, 1 ≤ t → t ≤ 100 → price n a b s ≤ price n a b t) → (∀ t, 1 ≤ t → t < s → price n a b s < price n a b t) → Same H H' → H p = none → H' p = some (.tup [.int (price n a b s), .int s]) → Q (.ref p) H'
def sp_require_cuts (K : PySem.W.Frag) : Sp := fun vs H Q _ => ∃ (n s : Int) (p : Addr) (cs : List Int), vs = [.int n, .int s, .ref p] ∧ H p = some (.lst (cs.map V.int)) ∧ Asc n 0 cs ∧ (cs.length : Int) < s ∧ s ≤ 100 ∧ ∀ H', Same H H' → Q .non H'
def sp_sweep_steps (K : PySem.W.Frag) : Sp := fun vs H Q _ => ∃ (n s : Int) (p : Addr) (cs : List Int), vs = [.int n, .int s, .ref p] ∧ 1 ≤ n ∧ n ≤ 1000000000000000000000000000000 ∧ 1 ≤ s ∧ s ≤ 100 ∧ H p = some (.lst (cs.map V.int)) ∧ Asc n 0 cs ∧ (cs.length : Int) < s ∧
  ∀ H', Same H H' → Q (.int (swp n s 0 cs)) H'
def sp_best_cuts (K : PySem.W.Frag) : Sp := fun vs H Q _ => ∃ (n s : Int), vs = [.int n, .int s] ∧ 1 ≤ n ∧ n ≤ 1000000000000000000000000000000 ∧ 1 ≤ s ∧ s ≤ 100 ∧ ∀ p H', Same H H' → H p = none → H' p = some (.lst ((bestCuts n s).map V.int)) → Q (.ref p) H'
/-- the draws of a cell: three ints, f draws are left -/
def Reel (H : Hp) (a : Addr) (f : Int) : Prop := ∃ x y z : Int, H a = some (.lst [.int x, .int y, .int z]) ∧ 0 ≤ y ∧ y < 2 ^ 200 ∧ 0 ≤ z ∧ z + f ≤ 100000
def sp_l_wound (K : PySem.W.Frag) : Sp := fun vs H Q _ => ∃ (a : Addr) (ns : List Int) (k : Int), vs = [.ref a, .int k] ∧ SqL K H a (ns.map V.int) ∧ 0 ≤ k ∧ k ≤ 100 ∧ ∀ p H', Same H H' → H p = none → Reel H' p 100000 → Q (.ref p) H'
def sp_l_spin (_ : PySem.W.Frag) : Sp := fun vs H Q _ => ∃ a m f, vs = [.ref a, .int m] ∧ 1 ≤ m ∧ m < 2 ^ 220 ∧ Reel H a f ∧ 1 ≤ f ∧ ∀ r H', 0 ≤ r → r < m → But a H H' → Reel H' a (f - 1) → Q (.int r) H'
def sp_l_choose (_ : PySem.W.Frag) : Sp := fun vs H Q _ => ∃ s r, vs = [.int s, .int r] ∧ 1 ≤ s ∧ s ≤ 102 ∧ -1 ≤ r ∧ r ≤ 2 ^ 109 ∧ Q (.int (rcI s r)) H
def sp_l_great (_ : PySem.W.Frag) : Sp := fun vs H Q _ => ∃ a f, vs = [.ref a] ∧ Reel H a f ∧ 8 ≤ f ∧ ∀ n s p H', 1 ≤ n → n ≤ 1000000000000000000000000000000 → 1 ≤ s → s ≤ 100 → But a H H' → Reel H' a (f - 8) → H p = none → H' p = some (.tup [.int n, .int s]) → Q (.ref p) H'
def sp_l_slots_right (_ : PySem.W.Frag) : Sp := fun vs H Q _ => ∃ a n s f, vs = [.ref a, .int n, .int s] ∧ 1 ≤ n ∧ n ≤ 1000000000000000000000000000000 ∧ 1 ≤ s ∧ s ≤ 100 ∧ Reel H a f ∧ 3 ≤ f ∧ ∀ H', But a H H' → Reel H' a (f - 3) → Q (.bl true) H'
def sp_l_splits_right (_ : PySem.W.Frag) : Sp := fun vs H Q _ => ∃ a n s f, vs = [.ref a, .int n, .int s] ∧ 1 ≤ n ∧ n ≤ 1000000000000000000000000000000 ∧ 1 ≤ s ∧ s ≤ 100 ∧ Reel H a f ∧ 1 ≤ f ∧ ∀ f' H', f - 1 ≤ f' → But a H H' → Reel H' a f' → Q (.bl true) H'
def sp_law_k43 (K : PySem.W.Frag) : Sp := fun vs H Q _ => ∃ (a : Addr) (ns : List Int), vs = [.ref a] ∧ SqL K H a (ns.map V.int) ∧ ns.length ≤ 63 ∧ ∀ H', Q (.bl true) H'

theorem len_require_rounds (K : PySem.W.Frag) {vs : List V} {H : Hp} {Q : VK} {E : XK} (h : sp_require_rounds K vs H Q E) : vs.length = 1 := by
  obtain ⟨_, rfl, _⟩ := h
  rfl
theorem len_reach (K : PySem.W.Frag) {vs : List V} {H : Hp} {Q : VK} {E : XK} (h : sp_reach K vs H Q E) : vs.length = 2 := by
  obtain ⟨_, _, rfl, _⟩ := h
  rfl
theorem len_least_rounds (K : PySem.W.Frag) {vs : List V} {H : Hp} {Q : VK} {E : XK} (h : sp_least_rounds K vs H Q E) : vs.length = 2 := by
  obtain ⟨_, _, rfl, _⟩ := h
  rfl
theorem len_least_slots (K : PySem.W.Frag) {vs : List V} {H : Hp} {Q : VK} {E : XK} (h : sp_least_slots K vs H Q E) : vs.length = 2 := by
  obtain ⟨_, _, _, rfl, _⟩ := h
  rfl
theorem len_require_number (K : PySem.W.Frag) {vs : List V} {H : Hp} {Q : VK} {E : XK} (h : sp_require_number K vs H Q E) : vs.length = 1 := by
  obtain ⟨_, rfl, _⟩ := h
  rfl
theorem len_least_steps (K : PySem.W.Frag) {vs : List V} {H : Hp} {Q : VK} {E : XK} (h : sp_least_steps K vs H Q E) : vs.length = 2 := by
  obtain ⟨_, _, rfl, _⟩ := h
  rfl
theorem len_slot_gain (K : PySem.W.Frag) {vs : List V} {H : Hp} {Q : VK} {E : XK} (h : sp_slot_gain K vs H Q E) : vs.length = 2 := by
  obtain ⟨_, _, rfl, _⟩ := h
  rfl
theorem len_slots_for (K : PySem.W.Frag) {vs : List V} {H : Hp} {Q : VK} {E : XK} (h : sp_slots_for K vs H Q E) : vs.length = 2 := by
  obtain ⟨_, _, rfl, _⟩ := h
  rfl
theorem len_cheapest_slots (K : PySem.W.Frag) {vs : List V} {H : Hp} {Q : VK} {E : XK} (h : sp_cheapest_slots K vs H Q E) : vs.length = 3 := by
  obtain ⟨_, _, _, rfl, _⟩ := h
  rfl
theorem len_require_cuts (K : PySem.W.Frag) {vs : List V} {H : Hp} {Q : VK} {E : XK} (h : sp_require_cuts K vs H Q E) : vs.length = 3 := by
  obtain ⟨_, _, _, _, rfl, _⟩ := h
  rfl
theorem len_sweep_steps (K : PySem.W.Frag) {vs : List V} {H : Hp} {Q : VK} {E : XK} (h : sp_sweep_steps K vs H Q E) : vs.length = 3 := by
  obtain ⟨_, _, _, _, rfl, _⟩ := h
  rfl
theorem len_best_cuts (K : PySem.W.Frag) {vs : List V} {H : Hp} {Q : VK} {E : XK} (h : sp_best_cuts K vs H Q E) : vs.length = 2 := by
  obtain ⟨_, _, rfl, _⟩ := h
  rfl
theorem len_l_wound (K : PySem.W.Frag) {vs : List V} {H : Hp} {Q : VK} {E : XK} (h : sp_l_wound K vs H Q E) : vs.length = 2 := by
  obtain ⟨_, _, _, rfl, _⟩ := h
  rfl
theorem len_l_spin (K : PySem.W.Frag) {vs : List V} {H : Hp} {Q : VK} {E : XK} (h : sp_l_spin K vs H Q E) : vs.length = 2 := by
  obtain ⟨_, _, _, rfl, _⟩ := h
  rfl
theorem len_l_choose (K : PySem.W.Frag) {vs : List V} {H : Hp} {Q : VK} {E : XK} (h : sp_l_choose K vs H Q E) : vs.length = 2 := by
  obtain ⟨_, _, rfl, _⟩ := h
  rfl
theorem len_l_great (K : PySem.W.Frag) {vs : List V} {H : Hp} {Q : VK} {E : XK} (h : sp_l_great K vs H Q E) : vs.length = 1 := by
  obtain ⟨_, _, rfl, _⟩ := h
  rfl
theorem len_l_slots_right (K : PySem.W.Frag) {vs : List V} {H : Hp} {Q : VK} {E : XK} (h : sp_l_slots_right K vs H Q E) : vs.length = 3 := by
  obtain ⟨_, _, _, _, rfl, _⟩ := h
  rfl
theorem len_l_splits_right (K : PySem.W.Frag) {vs : List V} {H : Hp} {Q : VK} {E : XK} (h : sp_l_splits_right K vs H Q E) : vs.length = 3 := by
  obtain ⟨_, _, _, _, rfl, _⟩ := h
  rfl
theorem len_law_k43 (K : PySem.W.Frag) {vs : List V} {H : Hp} {Q : VK} {E : XK} (h : sp_law_k43 K vs H Q E) : vs.length = 1 := by
  obtain ⟨_, _, rfl, _⟩ := h
  rfl

/-- require_rounds: slots 0 value -/
abbrev n_require_rounds : List Str := ["value"]
def t_require_rounds (K : PySem.W.Frag) : TS :=
  (tIfS (tNot (tB (tCall (sp_is_whole K) [] E0 (tCons (tVar 0) (tCons (tC (.int 0)) (tCons (tC (.int 1000)) tNil)))))) tNever tNext)
/-- reach: slots 0 slots, 1 rounds -/
abbrev n_reach : List Str := ["slots", "rounds"]
def t_reach (K : PySem.W.Frag) : TS :=
  (tSeq (tDrop (tCall (sp_require_slots K) [] E0 (tCons (tVar 0) tNil)))
  (tSeq (tDrop (tCall (sp_require_rounds K) [] E0 (tCons (tVar 1) tNil)))
  (tRet (tCall (sp_reach_of K) [] E0 (tCons (tVar 0) (tCons (tVar 1) tNil))))))
/-- least_rounds: slots 0 length, 1 slots -/
abbrev n_least_rounds : List Str := ["length", "slots"]
def t_least_rounds (K : PySem.W.Frag) : TS :=
  (tSeq (tDrop (tCall (sp_require_task K) [] E0 (tCons (tVar 0) (tCons (tVar 1) tNil))))
  (tRet (tCall (sp_rounds_of K) [] E0 (tCons (tVar 0) (tCons (tVar 1) tNil)))))
/-- least_slots: slots 0 length, 1 rounds, 2 slots -/
abbrev n_least_slots : List Str := ["length", "rounds", "slots"]
def t_least_slots (K : PySem.W.Frag) : TS :=
  (tSeq (tDrop (tCall (sp_require_length K) [] E0 (tCons (tVar 0) tNil)))
  (tSeq (tDrop (tCall (sp_require_rounds K) [] E0 (tCons (tVar 1) tNil)))
  (tSeq (tFor (iRng2 (tCons (tC (.int 1)) (tCons (tOp oAdd (tC (.int 100)) (tC (.int 1))) tNil))) (gName 2)
  (tIfS (tTest (tOp oGe (tCall (sp_reach_of K) [] E0 (tCons (tVar 2) (tCons (tVar 1) tNil))) (tVar 0))) (tRet (tVar 2)) tNext))
  (tRet (tC .non)))))
/-- require_number: slots 0 value -/
abbrev n_require_number : List Str := ["value"]
def t_require_number (K : PySem.W.Frag) : TS :=
  (tIfS (tOr (tNot (tB (tCall (sp_is_int K) [] E0 (tCons (tVar 0) tNil)))) (tTest (tOp oLt (tVar 0) (tC (.int 0))))) tNever tNext)
/-- least_steps: slots 0 length, 1 slots -/
abbrev n_least_steps : List Str := ["length", "slots"]
def t_least_steps (K : PySem.W.Frag) : TS :=
  (tSeq (tDrop (tCall (sp_require_task K) [] E0 (tCons (tVar 0) (tCons (tVar 1) tNil))))
  (tRet (tCall (sp_least_of K) [] E0 (tCons (tVar 0) (tCons (tVar 1) tNil)))))
/-- slot_gain: slots 0 length, 1 slots -/
abbrev n_slot_gain : List Str := ["length", "slots"]
def t_slot_gain (K : PySem.W.Frag) : TS :=
  (tSeq (tDrop (tCall (sp_require_task K) [] E0 (tCons (tVar 0) (tCons (tVar 1) tNil))))
  (tRet (tOp oSub (tCall (sp_least_of K) [] E0 (tCons (tVar 0) (tCons (tVar 1) tNil))) (tCall (sp_least_of K) [] E0 (tCons (tVar 0) (tCons (tOp oAdd (tVar 1) (tC (.int 1))) tNil))))))
/-- slots_for: slots 0 length, 1 steps, 2 slots -/
abbrev n_slots_for : List Str := ["length", "steps", "slots"]
def t_slots_for (K : PySem.W.Frag) : TS :=
  (tSeq (tDrop (tCall (sp_require_length K) [] E0 (tCons (tVar 0) tNil)))
  (tSeq (tDrop (tCall (sp_require_number K) [] E0 (tCons (tVar 1) tNil)))
  (tSeq (tFor (iRng2 (tCons (tC (.int 1)) (tCons (tOp oAdd (tC (.int 100)) (tC (.int 1))) tNil))) (gName 2)
  (tIfS (tTest (tOp oLe (tCall (sp_least_of K) [] E0 (tCons (tVar 0) (tCons (tVar 2) tNil))) (tVar 1))) (tRet (tVar 2)) tNext))
  (tRet (tC .non)))))
/-- cheapest_slots: slots 0 length, 1 slot_price, 2 step_price, 3 found, 4 slots -/
abbrev n_cheapest_slots : List Str := ["length", "slot_price", "step_price", "found", "slots"]
def t_cheapest_slots (K : PySem.W.Frag) : TS :=
  (tSeq (tDrop (tCall (sp_require_length K) [] E0 (tCons (tVar 0) tNil)))
  (tSeq (tDrop (tCall (sp_require_number K) [] E0 (tCons (tVar 1) tNil)))
  (tSeq (tDrop (tCall (sp_require_number K) [] E0 (tCons (tVar 2) tNil)))
  (tSeq (tAsg (tLst tNil) (gName 3))
  (tSeq (tFor (iRng2 (tCons (tC (.int 1)) (tCons (tOp oAdd (tC (.int 100)) (tC (.int 1))) tNil))) (gName 4)
  (tDrop (tBM K "list" rAppend (tVar 3) (tCons (tTup (tCons (tOp oAdd (tOp oMulA (tVar 4) (tVar 1)) (tOp oMulA (tCall (sp_least_of K) [] E0 (tCons (tVar 0) (tCons (tVar 4) tNil))) (tVar 2))) (tCons (tVar 4) tNil))) tNil))))
  (tRet (tCB (rMinT K) (tCons (tVar 3) tNil))))))))
/-- require_cuts: slots 0 length, 1 slots, 2 value, 3 ahead, 4 item, 5 cut -/
abbrev n_require_cuts : List Str := ["length", "slots", "value", "ahead", "item", "cut"]
def t_require_cuts (K : PySem.W.Frag) : TS :=
  (tSeq (tIfS (tOr (tNot (tB (tCB (rIsi K) (tCons (tVar 2) (tCons (tC (.ty "list")) tNil))))) (tTest (tOp oGe (tCB (oLen K) (tCons (tVar 2) tNil)) (tVar 1)))) tNever tNext)
  (tSeq (tAsg (tC (.int 0)) (gName 3))
  (tFor (iEnum K (tCons (tVar 2) tNil)) (gTup K 2 (gCons (gName 4) (gCons (gName 5) gNil)))
  (tSeq (tIfS (tNot (tB (tCall (sp_is_whole K) [] E0 (tCons (tVar 5) (tCons (tOp oAdd (tVar 3) (tC (.int 1))) (tCons (tOp oSub (tVar 0) (tC (.int 1))) tNil)))))) tNever tNext)
  (tAsg (tVar 5) (gName 3))))))
/-- sweep_steps: slots 0 length, 1 slots, 2 cuts, 3 found, 4 ahead, 5 item, 6 cut -/
abbrev n_sweep_steps : List Str := ["length", "slots", "cuts", "found", "ahead", "item", "cut"]
def t_sweep_steps (K : PySem.W.Frag) : TS :=
  (tSeq (tDrop (tCall (sp_require_task K) [] E0 (tCons (tVar 0) (tCons (tVar 1) tNil))))
  (tSeq (tDrop (tCall (sp_require_cuts K) [] E0 (tCons (tVar 0) (tCons (tVar 1) (tCons (tVar 2) tNil)))))
  (tSeq (tIfS (tTest (tOp (rEqD K) (tVar 2) (tLst tNil))) (tRet (tCall (sp_least_of K) [] E0 (tCons (tVar 0) (tCons (tVar 1) tNil)))) tNext)
  (tSeq (tPar 3 4 (tCons (tOp oAdd (tOp (rIxL K) (tVar 2) (tUn uNeg (tC (.int 1)))) (tCall (sp_least_of K) [] E0 (tCons (tOp oSub (tVar 0) (tOp (rIxL K) (tVar 2) (tUn uNeg (tC (.int 1))))) (tCons (tOp oSub (tVar 1) (tCB (oLen K) (tCons (tVar 2) tNil))) tNil)))) (tCons (tC (.int 0)) tNil)))
  (tSeq (tFor (iEnum K (tCons (tVar 2) tNil)) (gTup K 2 (gCons (gName 5) (gCons (gName 6) gNil)))
  (tSeq (tAug 3 (tCall (sp_least_of K) [] E0 (tCons (tOp oSub (tVar 6) (tVar 4)) (tCons (tOp oSub (tVar 1) (tVar 5)) tNil))) (ipI fun i j => i + j))
  (tAsg (tVar 6) (gName 4))))
  (tRet (tVar 3)))))))
/-- best_cuts: slots 0 length, 1 slots, 2 found, 3 begin, 4 left, 5 free, 6 split -/
abbrev n_best_cuts : List Str := ["length", "slots", "found", "begin", "left", "free", "split"]
def t_best_cuts (K : PySem.W.Frag) : TS :=
  (tSeq (tDrop (tCall (sp_require_task K) [] E0 (tCons (tVar 0) (tCons (tVar 1) tNil))))
  (tSeq (tAsg (tTup (tCons (tLst tNil) (tCons (tC (.int 0)) (tCons (tVar 0) (tCons (tVar 1) tNil))))) (gTup K 4 (gCons (gName 2) (gCons (gName 3) (gCons (gName 4) (gCons (gName 5) gNil))))))
  (tSeq (tWhile (tAnd (tTest (tOp oGt (tVar 4) (tC (.int 1)))) (tTest (tOp oGt (tVar 5) (tC (.int 1)))))
  (tSeq (tAsg (tOp (rIxT K) (tCall (sp_splits_with K) [] E0 (tCons (tVar 4) (tCons (tVar 5) (tCons (tCall (sp_rounds_of K) [] E0 (tCons (tVar 4) (tCons (tVar 5) tNil))) tNil)))) (tC (.int 1))) (gName 6))
  (tSeq (tPar3 3 4 5 (tCons (tOp oAdd (tVar 3) (tVar 6)) (tCons (tOp oSub (tVar 4) (tVar 6)) (tCons (tOp oSub (tVar 5) (tC (.int 1))) tNil))))
  (tIfS (tTest (tOp oGt (tVar 4) (tC (.int 1)))) (tDrop (tBM K "list" rAppend (tVar 2) (tCons (tVar 3) tNil))) tNext))))
  (tRet (tVar 2)))))
/-- wound: slots 0 l_script, 1 l_k, 2 l_cell -/
abbrev n_l_wound : List Str := ["_law_script", "_law_k", "_law_cell"]
def t_l_wound (K : PySem.W.Frag) : TS :=
  (tSeq (tAsg (tC (.int 0)) (gName 2))
  (tSeq (tIfS (tTest (tOp oLt (tVar 1) (tCB (oLen K) (tCons (tVar 0) tNil)))) (tAsg (tOp (rIxL K) (tVar 0) (tVar 1)) (gName 2)) tNext)
  (tRet (tLst (tCons (tCB oMax2 (tCons (tC (.int 0)) (tCons (tOp oSub (tVar 2) (tOp oPowA (tC (.int 10)) (tC (.int 18)))) tNil))) (tCons (tOp oAdd (tOp oAdd (tOp oMulA (tOp oModP (tCB oInt (tCons (tVar 2) tNil)) (tOp oAdd (tOp oPowA (tC (.int 10)) (tC (.int 38))) (tC (.int 133)))) (tC (.int 67))) (tOp oMulA (tC (.int 141650939)) (tVar 1))) (tC (.int 23))) (tCons (tC (.int 0)) tNil)))))))
/-- spin: slots 0 l_reel, 1 l_many, 2 l_drawn, 3 l_mixed -/
abbrev n_l_spin : List Str := ["_law_reel", "_law_many", "_law_drawn", "_law_mixed"]
def t_l_spin (K : PySem.W.Frag) : TS :=
  (tSeq (tIfS (tTest (tOp oGt (tOp (rIxL K) (tVar 0) (tC (.int 0))) (tC (.int 0)))) (tSeq (tAsg (tOp oModP (tCB oInt (tCons (tOp (rIxL K) (tVar 0) (tC (.int 0))) tNil)) (tVar 1)) (gName 2))
  (tSeq (tAsg (tOp oDivP (tOp (rIxL K) (tVar 0) (tC (.int 0))) (tVar 1)) (gSub (tVar 0) (tC (.int 0)) rSetL))
  (tRet (tVar 2)))) tNext)
  (tSeq (tAsg (tOp oAdd (tOp (rIxL K) (tVar 0) (tC (.int 2))) (tC (.int 1))) (gSub (tVar 0) (tC (.int 2)) rSetL))
  (tSeq (tAsg (tOp oModP (tCB oInt (tCons (tOp oPowA (tOp oAdd (tOp (rIxL K) (tVar 0) (tC (.int 1))) (tOp oMulA (tC (.int 86028121)) (tOp (rIxL K) (tVar 0) (tC (.int 2))))) (tC (.int 3))) tNil)) (tOp oAdd (tOp oPowA (tC (.int 10)) (tC (.int 42))) (tC (.int 63)))) (gName 3))
  (tSeq (tAsg (tOp oModP (tCB oInt (tCons (tOp oPowA (tOp oAdd (tVar 3) (tOp oMulA (tC (.int 67867967)) (tOp (rIxL K) (tVar 0) (tC (.int 2))))) (tC (.int 3))) tNil)) (tOp oAdd (tOp oPowA (tC (.int 10)) (tC (.int 44))) (tC (.int 57)))) (gName 3))
  (tRet (tOp oModP (tCB oInt (tCons (tOp oDivP (tVar 3) (tC (.int 655331))) tNil)) (tVar 1)))))))
/-- choose: slots 0 l_slots, 1 l_rounds, 2 l_found, 3 l_turn -/
abbrev n_l_choose : List Str := ["_law_slots", "_law_rounds", "_law_found", "_law_turn"]
def t_l_choose (K : PySem.W.Frag) : TS :=
  (tSeq (tAsg (tC (.int 1)) (gName 2))
  (tSeq (tFor (iRng1 (tCons (tCB oMin2 (tCons (tVar 0) (tCons (tCB oMax2 (tCons (tVar 1) (tCons (tC (.int 0)) tNil))) tNil))) tNil)) (gName 3)
  (tAsg (tOp oDivP (tOp oMulA (tVar 2) (tOp oSub (tOp oAdd (tVar 0) (tVar 1)) (tVar 3))) (tOp oAdd (tVar 3) (tC (.int 1)))) (gName 2)))
  (tRet (tIf (tTest (tOp oGe (tVar 1) (tC (.int 0)))) (tVar 2) (tC (.int 0))))))
/-- great: slots 0 l_reel, 1 l_slots, 2 l_edge, 3 l_some -/
abbrev n_l_great : List Str := ["_law_reel", "_law_slots", "_law_edge", "_law_some"]
def t_l_great (K : PySem.W.Frag) : TS :=
  (tSeq (tAsg (tOp oAdd (tC (.int 1)) (tCall (sp_l_spin K) [] E0 (tCons (tVar 0) (tCons (tOp (rIxL K) (tLst (tCons (tC (.int 4)) (tCons (tC (.int 100)) tNil))) (tCall (sp_l_spin K) [] E0 (tCons (tVar 0) (tCons (tC (.int 2)) tNil)))) tNil)))) (gName 1))
  (tSeq (tAsg (tCB oMin2 (tCons (tOp oSub (tOp oPowA (tC (.int 10)) (tC (.int 30))) (tC (.int 1))) (tCons (tCall (sp_l_choose K) [] E0 (tCons (tVar 1) (tCons (tCall (sp_l_spin K) [] E0 (tCons (tVar 0) (tCons (tOp (rIxL K) (tLst (tCons (tC (.int 9)) (tCons (tC (.int 60)) tNil))) (tCall (sp_l_spin K) [] E0 (tCons (tVar 0) (tCons (tC (.int 2)) tNil)))) tNil))) tNil))) tNil))) (gName 2))
  (tSeq (tAsg (tLst (tCons (tOp oAdd (tC (.int 1)) (tCall (sp_l_spin K) [] E0 (tCons (tVar 0) (tCons (tOp oPowA (tC (.int 10)) (tC (.int 30))) tNil)))) (tCons (tOp oAdd (tC (.int 1)) (tCall (sp_l_spin K) [] E0 (tCons (tVar 0) (tCons (tOp oPowA (tC (.int 10)) (tC (.int 9))) tNil)))) (tCons (tCB oMax2 (tCons (tC (.int 1)) (tCons (tOp oAdd (tOp oSub (tVar 2) (tC (.int 1))) (tCall (sp_l_spin K) [] E0 (tCons (tVar 0) (tCons (tC (.int 3)) tNil)))) tNil))) tNil)))) (gName 3))
  (tRet (tTup (tCons (tOp (rIxL K) (tVar 3) (tCall (sp_l_spin K) [] E0 (tCons (tVar 0) (tCons (tC (.int 3)) tNil)))) (tCons (tVar 1) tNil)))))))
/-- slots_right: slots 0 l_reel, 1 l_n, 2 l_s, 3 l_r, 4 l_few, 5 l_steps, 6 l_more, 7 l_gains, 8 l_most, 9 l_price, 10 l_slots, 11 l_one, 12 l_other, 13 l_some -/
abbrev n_l_slots_right : List Str := ["_law_reel", "_law_n", "_law_s", "_law_r", "_law_few", "_law_steps", "_law_more", "_law_gains", "_law_most", "_law_price", "_law_slots", "_law_one", "_law_other", "_law_some"]
def t_l_slots_right (K : PySem.W.Frag) : TS :=
  (tSeq (tAsg (tCall (sp_least_rounds K) [] E0 (tCons (tVar 1) (tCons (tVar 2) tNil))) (gName 3))
  (tSeq (tIfS (tTest (tOp oLe (tVar 3) (tC (.int 1000)))) (tSeq (tAsg (tCall (sp_least_slots K) [] E0 (tCons (tVar 1) (tCons (tVar 3) tNil))) (gName 4))
  (tSeq (tIfS (tOr (tTest (tOp oGt (tVar 4) (tVar 2))) (tOr (tTest (tOp oGt (tCall (sp_least_rounds K) [] E0 (tCons (tVar 1) (tCons (tVar 4) tNil))) (tVar 3))) (tAnd (tTest (tOp oGt (tVar 4) (tC (.int 1)))) (tTest (tOp oLe (tCall (sp_least_rounds K) [] E0 (tCons (tVar 1) (tCons (tOp oSub (tVar 4) (tC (.int 1))) tNil))) (tVar 3)))))) (tRet (tC (.bl false))) tNext)
  (tIfS (tOr (tTest (tOp oLt (tCall (sp_reach K) [] E0 (tCons (tVar 2) (tCons (tVar 3) tNil))) (tVar 1))) (tAnd (tTest (tOp oGt (tVar 3) (tC (.int 0)))) (tTest (tOp oGe (tCall (sp_reach K) [] E0 (tCons (tVar 2) (tCons (tOp oSub (tVar 3) (tC (.int 1))) tNil))) (tVar 1))))) (tRet (tC (.bl false))) tNext))) tNext)
  (tSeq (tAsg (tCall (sp_least_steps K) [] E0 (tCons (tVar 1) (tCons (tVar 2) tNil))) (gName 5))
  (tSeq (tAsg (tCall (sp_slots_for K) [] E0 (tCons (tVar 1) (tCons (tVar 5) tNil))) (gName 4))
  (tSeq (tIfS (tOr (tTest (tOp oGt (tVar 4) (tVar 2))) (tOr (tTest (tOp rNe (tCall (sp_least_steps K) [] E0 (tCons (tVar 1) (tCons (tVar 4) tNil))) (tVar 5))) (tAnd (tTest (tOp oGt (tVar 4) (tC (.int 1)))) (tTest (tOp oLe (tCall (sp_least_steps K) [] E0 (tCons (tVar 1) (tCons (tOp oSub (tVar 4) (tC (.int 1))) tNil))) (tVar 5)))))) (tRet (tC (.bl false))) tNext)
  (tSeq (tAsg (tCB oMin2 (tCons (tC (.int 100)) (tCons (tOp oAdd (tOp oAdd (tVar 2) (tC (.int 1))) (tCall (sp_l_spin K) [] E0 (tCons (tVar 0) (tCons (tC (.int 3)) tNil)))) tNil))) (gName 6))
  (tSeq (tAsg (tCB (rSum K) (tCons (tLc (iRng2 (tCons (tVar 2) (tCons (tVar 6) tNil))) (gName 13) tYes (tCall (sp_slot_gain K) [] E0 (tCons (tVar 1) (tCons (tVar 13) tNil))) [13]) tNil)) (gName 7))
  (tSeq (tIfS (tTest (tOp rNe (tVar 7) (tOp oSub (tVar 5) (tCall (sp_least_steps K) [] E0 (tCons (tVar 1) (tCons (tVar 6) tNil)))))) (tRet (tC (.bl false))) tNext)
  (tSeq (tAsg (tOp oMulA (tOp oPowA (tC (.int 10)) (tC (.int 50))) (tOp oPowA (tC (.int 10)) (tC (.int 49)))) (gName 8))
  (tSeq (tAsg (tCall (sp_cheapest_slots K) [] E0 (tCons (tVar 1) (tCons (tC (.int 0)) (tCons (tVar 8) tNil)))) (gTup K 2 (gCons (gName 9) (gCons (gName 10) gNil))))
  (tSeq (tIfS (tOr (tTest (tOp (rNeD K) (tCall (sp_cheapest_slots K) [] E0 (tCons (tVar 1) (tCons (tVar 9) (tCons (tC (.int 0)) tNil)))) (tTup (tCons (tVar 9) (tCons (tC (.int 1)) tNil))))) (tOr (tTest (tOp rNe (tCall (sp_slots_for K) [] E0 (tCons (tVar 1) (tCons (tVar 9) tNil))) (tC (.int 1)))) (tTest (tOp rNe (tVar 9) (tOp oMulA (tVar 8) (tCall (sp_least_steps K) [] E0 (tCons (tVar 1) (tCons (tVar 10) tNil)))))))) (tRet (tC (.bl false))) tNext)
  (tSeq (tPar 11 12 (tCons (tCall (sp_l_spin K) [] E0 (tCons (tVar 0) (tCons (tOp oPowA (tC (.int 10)) (tC (.int 6))) tNil))) (tCons (tCall (sp_l_spin K) [] E0 (tCons (tVar 0) (tCons (tOp oPowA (tC (.int 10)) (tC (.int 6))) tNil))) tNil)))
  (tSeq (tAsg (tCall (sp_cheapest_slots K) [] E0 (tCons (tVar 1) (tCons (tVar 11) (tCons (tVar 12) tNil)))) (gTup K 2 (gCons (gName 9) (gCons (gName 10) gNil))))
  (tRet (tChain rEq oLe (tVar 9) (tOp oAdd (tOp oMulA (tVar 11) (tVar 10)) (tOp oMulA (tVar 12) (tCall (sp_least_steps K) [] E0 (tCons (tVar 1) (tCons (tVar 10) tNil))))) (tOp oAdd (tOp oMulA (tVar 11) (tVar 2)) (tOp oMulA (tVar 12) (tVar 5))))))))))))))))))
/-- splits_right: slots 0 l_reel, 1 l_n, 2 l_s, 3 l_told, 4 l_low, 5 l_high, 6 l_m, 7 l_cuts -/
abbrev n_l_splits_right : List Str := ["_law_reel", "_law_n", "_law_s", "_law_told", "_law_low", "_law_high", "_law_m", "_law_cuts"]
def t_l_splits_right (K : PySem.W.Frag) : TS :=
  (tSeq (tAsg (tCall (sp_best_splits K) [] E0 (tCons (tVar 1) (tCons (tVar 2) tNil))) (gName 3))
  (tSeq (tIfS (tOr (tTest (tOp rEq (tVar 1) (tC (.int 1)))) (tTest (tOp rEq (tVar 2) (tC (.int 1))))) (tRet (tOp oIsN (tVar 3) (tC .non))) tNext)
  (tSeq (tAsg (tVar 3) (gTup K 2 (gCons (gName 4) (gCons (gName 5) gNil))))
  (tSeq (tFor (iTup K (tTup (tCons (tVar 4) (tCons (tVar 5) (tCons (tOp oAdd (tVar 4) (tCall (sp_l_spin K) [] E0 (tCons (tVar 0) (tCons (tOp oAdd (tOp oSub (tVar 5) (tVar 4)) (tC (.int 1))) tNil)))) tNil))))) (gName 6)
  (tIfS (tTest (tOp rNe (tCall (sp_split_loss K) [] E0 (tCons (tVar 1) (tCons (tVar 2) (tCons (tVar 6) tNil)))) (tC (.int 0)))) (tRet (tC (.bl false))) tNext))
  (tSeq (tIfS (tOr (tAnd (tTest (tOp oGt (tVar 4) (tC (.int 1)))) (tTest (tOp oLe (tCall (sp_split_loss K) [] E0 (tCons (tVar 1) (tCons (tVar 2) (tCons (tOp oSub (tVar 4) (tC (.int 1))) tNil)))) (tC (.int 0))))) (tAnd (tTest (tOp oLt (tVar 5) (tOp oSub (tVar 1) (tC (.int 1))))) (tTest (tOp oLe (tCall (sp_split_loss K) [] E0 (tCons (tVar 1) (tCons (tVar 2) (tCons (tOp oAdd (tVar 5) (tC (.int 1))) tNil)))) (tC (.int 0)))))) (tRet (tC (.bl false))) tNext)
  (tSeq (tAsg (tCall (sp_best_cuts K) [] E0 (tCons (tVar 1) (tCons (tVar 2) tNil))) (gName 7))
  (tSeq (tIfS (tOr (tTest (tOp rNe (tCall (sp_sweep_steps K) [] E0 (tCons (tVar 1) (tCons (tVar 2) (tCons (tVar 7) tNil)))) (tCall (sp_least_steps K) [] E0 (tCons (tVar 1) (tCons (tVar 2) tNil))))) (tTest (tOp rNe (tCall (sp_sweep_steps K) [] E0 (tCons (tVar 1) (tCons (tVar 2) (tCons (tLst tNil) tNil)))) (tCall (sp_least_steps K) [] E0 (tCons (tVar 1) (tCons (tVar 2) tNil)))))) (tRet (tC (.bl false))) tNext)
  (tRet (tAndV (tOp (rEqD K) (tVar 7) (tCB (rSortedI K) (tCons (tVar 7) tNil))) (tAndV (tOrV (tOp (rEqD K) (tVar 7) (tLst tNil)) (tOp rEq (tOp (rIxL K) (tVar 7) (tC (.int 0))) (tVar 5))) (tOp oLt (tCB (oLen K) (tCons (tVar 7) tNil)) (tVar 2))))))))))))
/-- law: slots 0 l_script, 1 l_k, 2 l_reel, 3 l_n, 4 l_s -/
abbrev n_law_k43 : List Str := ["_law_script", "_law_k", "_law_reel", "_law_n", "_law_s"]
def t_law_k43 (K : PySem.W.Frag) : TS :=
  (tSeq (tFor (iRng1 (tCons (tCB oMax2 (tCons (tC (.int 1)) (tCons (tCB oMin2 (tCons (tC (.int 2)) (tCons (tCB (oLen K) (tCons (tVar 0) tNil)) tNil))) tNil))) tNil)) (gName 1)
  (tSeq (tAsg (tCall (sp_l_wound K) [] E0 (tCons (tVar 0) (tCons (tVar 1) tNil))) (gName 2))
  (tFor (iTup K (tTup (tCons (tTup (tCons (tOp oAdd (tC (.int 1)) (tCall (sp_l_spin K) [] E0 (tCons (tVar 2) (tCons (tC (.int 99)) tNil)))) (tCons (tOp oAdd (tC (.int 1)) (tCall (sp_l_spin K) [] E0 (tCons (tVar 2) (tCons (tC (.int 9)) tNil)))) tNil))) (tCons (tCall (sp_l_great K) [] E0 (tCons (tVar 2) tNil)) tNil)))) (gTup K 2 (gCons (gName 3) (gCons (gName 4) gNil)))
  (tIfS (tOr (tNot (tB (tCall (sp_l_slots_right K) [] E0 (tCons (tVar 2) (tCons (tVar 3) (tCons (tVar 4) tNil)))))) (tNot (tB (tCall (sp_l_splits_right K) [] E0 (tCons (tVar 2) (tCons (tVar 3) (tCons (tVar 4) tNil))))))) (tRet (tC (.bl false))) tNext))))
  (tRet (tC (.bl true))))

end Bs

namespace Bs
open PySem PySem.Spec L2 Bm
open PyProof.Rows hiding St
-- one step of a reading; side conditions; what a heap holds
local macro_rules | `(tactic| walk_at "sc") => `(tactic| (first
  | exact mulL ⟨by omega, by omega⟩ | exact mulR ⟨by omega, by omega⟩ | exact divS (by omega) (by omega) | exact (show (0 : Int) < _ by omega) | exact powS (b := 4) (by decide) (by decide) (by decide) (by decide) | assumption | omega))
local macro_rules | `(tactic| walk_at "ne") => `(tactic| (first
  | assumption | (apply Ne.symm; assumption) | exact ne_none (by assumption) (by walk_at "hp") | exact Ne.symm (ne_none (by assumption) (by walk_at "hp"))))
local macro_rules | `(tactic| walk_at "hp") => `(tactic| (first
  | assumption | exact upd_same | (refine (upd_ne ?k1).trans ?k2; (case k1 => walk_at "ne"); (case k2 => walk_at "hp")) | (refine Same.get (by assumption) ?_; walk_at "hp") | (refine But.get (by assumption) ?k1 ?k2; (case k1 => walk_at "hp"); (case k2 => walk_at "ne"))))
local macro_rules | `(tactic| walk_at "sq") => `(tactic| (first | assumption | exact SqL.of (by walk_at "hp") | exact SqT.of (by walk_at "hp")))
local macro_rules | `(tactic| walk_at "rd1") => `(tactic| (first
  | with_reducible refine r_seq ?_ | with_reducible refine r_asg ?_ | with_reducible refine r_asgG ?_ | with_reducible refine r_op ?_ | with_reducible refine r_var (by with_unfolding_all exact rfl) ?_ | with_reducible refine r_c ?_ | with_reducible refine r_I0 ?_ | with_reducible refine r_p30 ?_ | with_reducible refine r_p20 ?_ | with_reducible refine r_p27 ?_ | with_reducible refine r_p29 ?_ | with_reducible refine r_p38 ?_ | with_reducible refine r_p40 ?_ | with_reducible refine r_p42 ?_ | with_reducible refine r_p44 ?_ | with_reducible refine r_p49 ?_ | with_reducible refine r_p50 ?_ | with_reducible refine r_p60 ?_ | with_reducible refine r_p18 ?_ | with_reducible refine r_p12 ?_ | with_reducible refine r_p15 ?_ | with_reducible refine r_p9 ?_ | with_reducible refine r_p6 ?_ | with_reducible refine r_p64 ?_ | ((with_reducible refine r_I ?k1 ?k2); (case k1 => walk_at "sc")) | with_reducible refine r_U ?_ | with_reducible refine r_un ?_
  | with_reducible refine r_ret ?_ | with_reducible refine r_ifS ?_ | with_reducible refine r_test ?_ | with_reducible refine r_bl ?_ | with_reducible refine r_cb ?_ | with_reducible refine r_cons ?_ | with_reducible refine r_nil ?_ | with_reducible refine r_intI ?_ | with_reducible refine r_intB ?_ | refine r_max2' ?_ | refine r_min2' ?_ | with_reducible refine r_max3 ?_ | with_reducible refine r_min3 ?_
  | with_reducible refine r_call ?_ | with_reducible refine r_par ?_ | with_reducible refine r_and ?_ | with_reducible refine r_or ?_ | with_reducible refine r_not ?_ | with_reducible refine r_B ?_ | with_reducible refine r_andV ?_ | with_reducible refine r_orV ?_ | with_reducible refine r_notV ?_ | with_reducible refine r_ifE ?_ | with_reducible refine r_eqI ?_ | with_reducible refine r_neI ?_ | with_reducible refine r_eqB ?_ | with_reducible refine r_neB ?_ | with_reducible refine r_isN ?_ | with_reducible refine r_notN ?_
  | with_reducible refine r_chain ?_ | with_reducible refine r_chain3 ?_ | with_reducible refine r_drop ?_ | with_reducible refine r_next ?_ | with_reducible refine r_retN ?_ | with_reducible refine r_brk ?_ | with_reducible refine r_cont ?_ | with_reducible refine r_ex ?_
  | with_reducible refine r_tup ?_ | with_reducible refine r_lst ?_ | ((with_reducible refine r_new ?k1 ?k2); (case k1 => first | decide | exact Nat.le_of_ble_eq_true rfl)) | with_reducible refine r_sub ?_ | with_reducible refine r_gname ?_ | with_reducible refine r_gcons ?_ | with_reducible refine r_gnil ?_ | with_reducible refine r_slice ?_ | with_reducible refine r_noPart ?_ | with_reducible refine r_part ?_
  | with_reducible refine r_gtup (by with_unfolding_all walk_at "sq") (by with_unfolding_all exact rfl) ?_
  | with_reducible refine r_rng1 ?_ | with_reducible refine r_rng2 ?_ | ((with_reducible refine r_r1 ?k1 ?k2 ?k3); (case k1 => omega); (case k2 => omega)) | ((with_reducible refine r_r2 ?k1 ?k2); (case k1 => omega)) | with_reducible refine r_nonT ?_ | with_reducible refine r_nonI ?_ | with_reducible refine r_nonR ?_ | with_reducible refine r_notT ?_ | with_reducible refine r_notI ?_ | with_reducible refine r_notR ?_ | with_reducible refine r_for ?_ | with_reducible refine r_lc ?_ | with_reducible refine r_iL ?_ | with_reducible refine r_iT ?_ | with_reducible refine r_yesT ?_ | with_reducible refine r_same (by with_unfolding_all exact rfl) ?_ | with_reducible refine r_neS ?_ | with_reducible refine r_iteT ?_ | with_reducible refine r_iteF ?_ | with_reducible refine r_iteNT ?_ | with_reducible refine r_iteNF ?_
  | with_reducible refine r_aug (by with_unfolding_all exact rfl) ?_ | with_reducible refine r_ipI ?_ | with_reducible refine r_bm ?_ | with_reducible refine r_tyL (by with_unfolding_all walk_at "sq") ?_ | with_reducible refine r_enum ?_ | with_reducible refine r_en (by with_unfolding_all walk_at "sq") ?_ | with_reducible refine r_par3' ?_))
local macro_rules | `(tactic| walk_at "rd") => `(tactic| repeat walk_at "rd1")
section
variable (K : PySem.W.Frag) {vs : List V} {H : Hp} {Q : VK} {E : XK}
theorem pure_require_rounds (h : sp_require_rounds K vs H Q E) : t_require_rounds K { nx := fun _ H' => Q .non H', rt := Q } (start n_require_rounds vs) H := by
  obtain ⟨n, rfl, h1, h2, q⟩ := h
  show t_require_rounds K _ [some (.int n)] H
  unfold t_require_rounds
  walk_at "rd"
  refine ⟨n, _, _, rfl, ?_⟩
  rw [decide_eq_true ⟨h1, h2⟩]
  walk_at "rd"
  exact q
theorem pure_reach (h : sp_reach K vs H Q E) : t_reach K { nx := fun _ H' => Q .non H', rt := Q } (start n_reach vs) H := by
  obtain ⟨s, r, rfl, h1, h2, h3, h4, q⟩ := h
  show t_reach K _ [some (.int s), some (.int r)] H
  unfold t_reach
  walk_at "rd"
  refine ⟨s, rfl, h1, h2, ?_⟩
  walk_at "rd"
  refine ⟨r, rfl, h3, h4, ?_⟩
  walk_at "rd"
  exact ⟨s, r, rfl, by omega, by omega, by omega, by omega, q⟩
theorem pure_least_rounds (h : sp_least_rounds K vs H Q E) : t_least_rounds K { nx := fun _ H' => Q .non H', rt := Q } (start n_least_rounds vs) H := by
  obtain ⟨n, s, rfl, h1, h2, h3, h4, q⟩ := h
  show t_least_rounds K _ [some (.int n), some (.int s)] H
  unfold t_least_rounds
  walk_at "rd"
  refine ⟨n, s, rfl, h1, h2, h3, h4, ?_⟩
  walk_at "rd"
  exact ⟨n, s, rfl, h1, by omega, h3, by omega, fun H' s' => q _ s'⟩
theorem pure_least_slots (h : sp_least_slots K vs H Q E) : t_least_slots K { nx := fun _ H' => Q .non H', rt := Q } (start n_least_slots vs) H := by
  obtain ⟨n, r, s, rfl, h1, h2, h3, h4, h5, h6, h7, q⟩ := h
  show t_least_slots K _ [some (.int n), some (.int r), none] H
  unfold t_least_slots
  walk_at "rd"
  refine ⟨n, rfl, h1, h2, ?_⟩
  walk_at "rd"
  refine ⟨r, rfl, h3, h4, ?_⟩
  walk_at "rd"
  refine for_range (fun i σ H' => H' = H ∧ (∀ q, 1 ≤ q → q < 1 + (i : Int) → rcI q r < n) ∧ ∃ v, σ = [some (.int n), some (.int r), v]) ⟨rfl, fun q a b => by omega, none, rfl⟩ ?_ ?_
  · rintro i σ H' hi ⟨rfl, lt, v, rfl⟩
    walk_at "rd"
    refine ⟨1 + (i : Int), r, rfl, by omega, by omega, by omega, by omega, ?_⟩
    walk_at "rd"
    refine r_ite (fun c => ?_) fun c => ?_
    · walk_at "rd"
      refine q _ (by omega) ?_ c lt
      apply Decidable.byContradiction
      intro d
      have := lt s h5 (by omega)
      omega
    · walk_at "rd"
      refine ⟨rfl, fun q a b => ?_, _, rfl⟩
      by_cases e : q = 1 + (i : Int)
      · subst e
        omega
      · exact lt q a (by omega)
  · rintro σ H' ⟨rfl, lt, v, rfl⟩
    have := lt s h5 (by omega)
    omega
theorem pure_require_number (h : sp_require_number K vs H Q E) : t_require_number K { nx := fun _ H' => Q .non H', rt := Q } (start n_require_number vs) H := by
  obtain ⟨i, rfl, h1, q⟩ := h
  show t_require_number K _ [some (.int i)] H
  unfold t_require_number
  walk_at "rd"
  refine ⟨i, rfl, ?_⟩
  walk_at "rd"
  refine r_no (by omega) ?_
  walk_at "rd"
  exact q
theorem pure_least_steps (h : sp_least_steps K vs H Q E) : t_least_steps K { nx := fun _ H' => Q .non H', rt := Q } (start n_least_steps vs) H := by
  obtain ⟨n, s, rfl, h1, h2, h3, h4, q⟩ := h
  show t_least_steps K _ [some (.int n), some (.int s)] H
  unfold t_least_steps
  walk_at "rd"
  refine ⟨n, s, rfl, h1, h2, h3, h4, ?_⟩
  walk_at "rd"
  exact ⟨n, s, rfl, h1, by omega, h3, by omega, fun H' s' => q _ s'⟩
theorem pure_slot_gain (h : sp_slot_gain K vs H Q E) : t_slot_gain K { nx := fun _ H' => Q .non H', rt := Q } (start n_slot_gain vs) H := by
  obtain ⟨n, s, rfl, h1, h2, h3, h4, q⟩ := h
  show t_slot_gain K _ [some (.int n), some (.int s)] H
  unfold t_slot_gain
  walk_at "rd"
  refine ⟨n, s, rfl, h1, h2, h3, h4, ?_⟩
  walk_at "rd"
  refine ⟨n, s, rfl, h1, by omega, h3, by omega, fun H1 s1 => ?_⟩
  walk_at "rd"
  refine ⟨n, s + 1, rfl, h1, by omega, by omega, by omega, fun H2 s2 => ?_⟩
  walk_at "rd"
  exact q _ (Same.trans s1 s2)
theorem pure_slots_for (h : sp_slots_for K vs H Q E) : t_slots_for K { nx := fun _ H' => Q .non H', rt := Q } (start n_slots_for vs) H := by
  obtain ⟨n, m, rfl, h1, h2, h3, q1, q2⟩ := h
  show t_slots_for K _ [some (.int n), some (.int m), none] H
  unfold t_slots_for
  walk_at "rd"
  refine ⟨n, rfl, h1, h2, ?_⟩
  walk_at "rd"
  refine ⟨m, rfl, h3, ?_⟩
  walk_at "rd"
  refine for_range (fun i σ H' => Same H H' ∧ (∀ q, 1 ≤ q → q < 1 + (i : Int) → m < ttI n q) ∧ ∃ v, σ = [some (.int n), some (.int m), v]) ⟨Same.refl _, fun q a b => by omega, none, rfl⟩ ?_ ?_
  · rintro i σ H' hi ⟨s1, lt, v, rfl⟩
    walk_at "rd"
    refine ⟨n, 1 + (i : Int), rfl, by omega, by omega, by omega, by omega, fun H2 s2 => ?_⟩
    walk_at "rd"
    refine r_ite (fun c => ?_) fun c => ?_
    · walk_at "rd"
      exact q1 _ _ (by omega) (by omega) c lt (Same.trans s1 s2)
    · walk_at "rd"
      refine ⟨Same.trans s1 s2, fun q a b => ?_, _, rfl⟩
      by_cases e : q = 1 + (i : Int)
      · subst e
        omega
      · exact lt q a (by omega)
  · rintro σ H' ⟨s1, lt, v, rfl⟩
    walk_at "rd"
    exact q2 (fun t a b => lt t a (by omega)) _ s1
/-- the ints that a tuple's address holds -/
def keyH (H : Hp) : V → List Int
  | .ref t => match H t with
    | some (.tup l) => l.filterMap fun v => match v with
      | .int i => some i
      | _ => none
    | _ => []
  | _ => []
theorem keyH_2 {H : Hp} {t : Addr} {i j : Int} (h : H t = some (.tup [.int i, .int j])) : keyH H (.ref t) = [i, j] := by
  simp [keyH, h]
theorem lex2 {a b c d : Int} (h : HT.lexLt [a, b] [c, d] = false) : c ≤ a ∧ (a = c → d ≤ b) := by
  rw [HT.lexLt_cons] at h
  by_cases e : a = c
  · rw [if_pos e, HT.lexLt_cons] at h
    refine ⟨by omega, fun _ => ?_⟩
    by_cases e2 : b = d
    · omega
    · rw [if_neg e2] at h
      have := of_decide_eq_false h
      omega
  · rw [if_neg e] at h
    have := of_decide_eq_false h
    exact ⟨by omega, fun e' => absurd e' e⟩
theorem pure_cheapest_slots (h : sp_cheapest_slots K vs H Q E) : t_cheapest_slots K { nx := fun _ H' => Q .non H', rt := Q } (start n_cheapest_slots vs) H := by
  obtain ⟨n, a_, b_, rfl, h1, h2, h3, h4, h5, h6, q⟩ := h
  show t_cheapest_slots K _ [some (.int n), some (.int a_), some (.int b_), none, none] H
  unfold t_cheapest_slots
  walk_at "rd"
  refine ⟨n, rfl, h1, h2, ?_⟩
  walk_at "rd"
  refine ⟨a_, rfl, h3, ?_⟩
  walk_at "rd"
  refine ⟨b_, rfl, h5, ?_⟩
  walk_at "rd"
  intro L hL
  walk_at "rd"
  refine for_range (fun i σ H' => Same H H' ∧ ∃ v xs, σ = [some (.int n), some (.int a_), some (.int b_), some (.ref L), v] ∧ H' L = some (.lst xs) ∧ xs.length = i ∧
    ∀ j : Nat, j < i → ∃ t, xs[j]? = some (.ref t) ∧ H t = none ∧ H' t = some (.tup [.int (price n a_ b_ (1 + (j : Int))), .int (1 + (j : Int))])) ?_ ?_ ?_
  · exact ⟨Same.new hL, none, [], rfl, upd_same, rfl, fun j hj => by omega⟩
  · rintro i σ H1 hi ⟨s1, v, xs, rfl, e1, e2, e3⟩
    walk_at "rd"
    refine ⟨n, 1 + (i : Int), rfl, by omega, by omega, by omega, by omega, fun H2 s2 => ?_⟩
    have T := ttI_le (n := n) (s := 1 + (i : Int)) (by omega) (by omega) (by omega)
    walk_at "rd"
    refine r_I (mulW (a := 203) (b := 1000) (show (ttI n (1 + (i : Int))).natAbs < 2 ^ 203 by omega) h6 (by decide) (by decide) (by decide)) ?_
    walk_at "rd"
    intro p hp
    have hp1 : H1 p = none := Same.none s2 hp
    have n1 : L ≠ p := ne_none hp1 e1
    walk_at "rd"
    refine r_app ((upd_ne n1).trans (s2 _ _ e1)) (by omega) ?_
    have hpH : H p = none := Same.none s1 hp1
    refine ⟨?_, _, xs ++ [.ref p], rfl, upd_same, by simp [e2], fun j hj => ?_⟩
    · exact Same.mut (Same.newT (Same.trans s1 s2) hp) hL
    · by_cases e : j = i
      · subst e
        exact ⟨p, by rw [← e2]; simp, hpH, (upd_ne (Ne.symm n1)).trans upd_same⟩
      · obtain ⟨t, f1, f2, f3⟩ := e3 j (by omega)
        have nt : t ≠ p := ne_none hp1 f3
        have nL : t ≠ L := fun e => by rw [e, e1] at f3; cases f3
        refine ⟨t, ?_, f2, (upd_ne nL).trans ((upd_ne nt).trans (s2 _ _ f3))⟩
        rw [List.getElem?_append_left (by omega)]
        exact f1
  · rintro σ H1 ⟨s1, v, xs, rfl, e1, e2, e3⟩
    walk_at "rd"
    have at_ : ∀ x ∈ xs, ∃ (j : Nat) (t : Addr), j < 100 ∧ x = .ref t ∧ H t = none ∧ H1 t = some (.tup [.int (price n a_ b_ (1 + (j : Int))), .int (1 + (j : Int))]) := by
      intro x hx
      obtain ⟨j, hj, e⟩ := List.mem_iff_getElem.mp hx
      obtain ⟨t, f1, f2, f3⟩ := e3 j (by omega)
      rw [List.getElem?_eq_getElem hj, e] at f1
      exact ⟨j, t, by omega, Option.some.inj f1, f2, f3⟩
    refine ⟨L, xs, keyH H1, rfl, SqL.of e1, ?_, ?_, ?_⟩
    · rintro rfl
      have : (0 : Nat) = _ := e2
      omega
    · intro x hx
      obtain ⟨j, t, _, rfl, _, f3⟩ := at_ x hx
      rw [keyH_2 f3]
      exact ⟨t, rfl, SqT.of f3⟩
    · intro x hx least
      obtain ⟨j, t, hj, rfl, f2, f3⟩ := at_ x hx
      have L2 : ∀ s, 1 ≤ s → s ≤ 100 → price n a_ b_ (1 + (j : Int)) ≤ price n a_ b_ s ∧ (price n a_ b_ s = price n a_ b_ (1 + (j : Int)) → 1 + (j : Int) ≤ s) := by
        intro s hs1 hs2
        obtain ⟨u, g1, g2, g3⟩ := e3 (s - 1).toNat (by omega)
        have z := least _ (List.mem_of_getElem? g1)
        rw [keyH_2 f3, keyH_2 g3, show 1 + ((s - 1).toNat : Int) = s by omega] at z
        exact lex2 z
      refine q _ t _ (by omega) (by omega) (fun s a b => (L2 s a b).1) (fun s a b => ?_) s1 f2 f3
      have w := L2 s a (by omega)
      by_cases e : price n a_ b_ s = price n a_ b_ (1 + (j : Int))
      · have := w.2 e
        omega
      · have := w.1
        omega
theorem pure_require_cuts (h : sp_require_cuts K vs H Q E) : t_require_cuts K { nx := fun _ H' => Q .non H', rt := Q } (start n_require_cuts vs) H := by
  obtain ⟨n, s, p, cs, rfl, e, h1, h2, h3, q⟩ := h
  show t_require_cuts K _ [some (.int n), some (.int s), some (.ref p), none, none, none] H
  unfold t_require_cuts
  walk_at "rd"
  refine ⟨.ref p, .ty "list", .type "list", .type "list", true, rfl, .ty _, .base (.lst e), kit_ty (by decide +kernel), ?_⟩
  walk_at "rd"
  refine r_lenL (SqL.of e) ?_
  walk_at "rd"
  refine r_no (by rw [List.length_map]; omega) ?_
  walk_at "rd"
  refine for_it (walk_enum (xs := cs.map V.int)) (fun i σ H' => Same H H' ∧ ∃ v4 v5, σ = [some (.int n), some (.int s), some (.ref p), some (.int (lastD 0 (cs.take i))), v4, v5]) ?_ ?_ ?_ ?_
  · exact ⟨Same.refl _, none, none, rfl⟩
  · rintro i σ H1 _ ⟨s1, _⟩
    exact SqL.of (s1 _ _ e)
  · rintro i x σ H1 H2 hi ⟨s1, v4, v5, rfl⟩ ⟨T, x1, x2, rfl, hT, rfl, y1, y2⟩
    cases y1
    have y2 : (cs.map V.int)[i]? = some x2 := y2
    rw [List.getElem?_map] at y2
    rw [List.length_map] at hi
    rw [List.getElem?_eq_getElem hi] at y2
    have y3 := (Option.some.inj y2).symm
    subst y3
    have sn : (cs.take (i + 1)) = cs.take i ++ [cs[i]] := by rw [List.take_succ, List.getElem?_eq_getElem hi]; rfl
    have A := (h1.take (i + 1))
    rw [sn] at A
    have B := A.snoc
    refine r_gtup (SqT.of upd_same) rfl ?_
    walk_at "rd"
    refine ⟨cs[i], lastD 0 (cs.take i) + 1, n - 1, rfl, ?_⟩
    rw [decide_eq_true ⟨by omega, by omega⟩]
    walk_at "rd"
    refine ⟨Same.newT s1 hT, some (.int (i : Int)), some (.int cs[i]), ?_⟩
    rw [sn, lastD_snoc]
    rfl
  · rintro σ H1 ⟨s1, v4, v5, rfl⟩
    exact q _ s1
theorem swp_now {n s : Int} {cs : List Int} : swp n s 0 cs = lastD 0 cs + ttI (n - lastD 0 cs) (s - cs.length) + parts s 0 cs := by
  rw [swp_parts]
  omega
theorem atI_last {ns : List Int} (h : ns ≠ []) : atI (ns.map V.int) (-1) = some (.int (lastD 0 ns)) := by
  have hl : 0 < ns.length := List.length_pos_iff.mpr h
  unfold atI ixN
  rw [if_neg (by omega), if_pos (by rw [List.length_map]; omega)]
  show (ns.map V.int)[_]? = _
  rw [List.length_map, List.getElem?_map]
  have e : ((ns.length : Int) + -1).toNat = ns.length - 1 := by omega
  unfold lastD
  rw [List.getLastD_eq_getLast?, List.getLast?_eq_getElem?]
  first
    | rw [e, List.getElem?_eq_getElem (by omega)]; rfl
    | rw [show (-1 + (ns.length : Int)).toNat = ns.length - 1 by omega, List.getElem?_eq_getElem (by omega)]; rfl
    | rw [List.getElem?_eq_getElem (show ns.length - 1 < ns.length by omega)]; simp
theorem pure_sweep_steps (h : sp_sweep_steps K vs H Q E) : t_sweep_steps K { nx := fun _ H' => Q .non H', rt := Q } (start n_sweep_steps vs) H := by
  obtain ⟨n, s, p, cs, rfl, h1, h2, h3, h4, e, h5, h6, q⟩ := h
  show t_sweep_steps K _ [some (.int n), some (.int s), some (.ref p), none, none, none, none] H
  unfold t_sweep_steps
  walk_at "rd"
  refine ⟨n, s, rfl, h1, h2, h3, h4, ?_⟩
  walk_at "rd"
  refine ⟨n, s, p, cs, rfl, e, h5, h6, h4, fun H1 s1 => ?_⟩
  have e1 := s1 _ _ e
  walk_at "rd"
  intro p2 hp2
  have n2 := ne_none hp2 e1
  refine r_eqL (ns := cs) (ms := []) (SqL.of ((upd_ne n2).trans e1)) (SqL.of upd_same) ?_
  have s2 := Same.newT (o := .lst []) s1 hp2
  have e2 := s2 _ _ e
  generalize upd H1 p2 (.lst []) = H2 at s2 e2 ⊢
  walk_at "rd"
  refine r_ite (fun c => ?_) fun c => ?_
  · subst c
    walk_at "rd"
    refine ⟨n, s, rfl, h1, by omega, h3, by omega, fun H3 s3 => ?_⟩
    have z : swp n s 0 [] = ttI n s := by
      show ttI (n - 0) s = _
      rw [Int.sub_zero]
    rw [← z]
    exact q _ (Same.trans s2 s3)
  · have L := h5.last
    have L2 := L.2 (by omega)
    have hl : 0 < cs.length := List.length_pos_iff.mpr c
    walk_at "rd"
    refine r_ixL (SqL.of e2) (atI_last c) ?_
    walk_at "rd"
    refine r_ixL (SqL.of e2) (atI_last c) ?_
    walk_at "rd"
    refine r_lenL (SqL.of e2) ?_
    rw [List.length_map]
    walk_at "rd"
    refine ⟨n - lastD 0 cs, s - (cs.length : Int), rfl, by omega, by omega, by omega, by omega, fun H3 s3 => ?_⟩
    have e3 := s3 _ _ e2
    walk_at "rd"
    refine for_it (walk_enum (xs := cs.map V.int)) (fun i σ H' => Same H H' ∧ ∃ v5 v6, σ = [some (.int n), some (.int s), some (.ref p), some (.int (lastD 0 cs + ttI (n - lastD 0 cs) (s - cs.length) + parts s 0 (cs.take i))), some (.int (lastD 0 (cs.take i))), v5, v6]) ?_ ?_ ?_ ?_
    · refine ⟨Same.trans s2 s3, none, none, ?_⟩
      rw [List.take_zero]
      show _ = [_, _, _, some (V.int (lastD 0 cs + ttI (n - lastD 0 cs) (s - ↑cs.length) + 0)), _, _, _]
      rw [Int.add_zero]
      rfl
    · rintro i σ H4 _ ⟨s4, _⟩
      exact SqL.of (s4 _ _ e)
    · rintro i x σ H4 H5 hi ⟨s4, v5, v6, rfl⟩ ⟨T, x1, x2, rfl, hT, rfl, y1, y2⟩
      cases y1
      have y2 : (cs.map V.int)[i]? = some x2 := y2
      rw [List.getElem?_map] at y2
      rw [List.length_map] at hi
      rw [List.getElem?_eq_getElem hi] at y2
      have y3 := (Option.some.inj y2).symm
      subst y3
      have sn : (cs.take (i + 1)) = cs.take i ++ [cs[i]] := by rw [List.take_succ, List.getElem?_eq_getElem hi]; rfl
      have A := (h5.take (i + 1))
      have A0 := (h5.take i).last
      rw [sn] at A
      have B := A.snoc
      refine r_gtup (SqT.of upd_same) rfl ?_
      walk_at "rd"
      refine ⟨cs[i] - lastD 0 (cs.take i), s - (i : Int), rfl, by omega, by omega, by omega, by omega, fun H6 s6 => ?_⟩
      walk_at "rd"
      refine ⟨Same.trans (Same.newT s4 hT) s6, some (.int (i : Int)), some (.int cs[i]), ?_⟩
      rw [sn, lastD_snoc, parts_snoc, List.length_take, show min i cs.length = i by omega, ← Int.add_assoc]
      rfl
    · rintro σ H4 ⟨s4, v5, v6, rfl⟩
      walk_at "rd"
      rw [List.length_map, List.take_length, ← swp_now]
      exact q _ s4
theorem pure_best_cuts (h : sp_best_cuts K vs H Q E) : t_best_cuts K { nx := fun _ H' => Q .non H', rt := Q } (start n_best_cuts vs) H := by
  obtain ⟨n, s, rfl, h1, h2, h3, h4, q⟩ := h
  show t_best_cuts K _ [some (.int n), some (.int s), none, none, none, none, none] H
  unfold t_best_cuts
  walk_at "rd"
  refine ⟨n, s, rfl, h1, h2, h3, h4, ?_⟩
  walk_at "rd"
  intro L hL
  walk_at "rd"
  intro T hT
  have hLT : L ≠ T := ne_none hT upd_same
  refine r_gtup (SqT.of upd_same) rfl ?_
  walk_at "rd"
  have ok := bestCuts_ok h1 h3
  refine r_while (fun m σ H' => ∃ xs b l f v, σ = [some (.int n), some (.int s), some (.ref L), some (.int b), some (.int l), some (.int f), v] ∧ Same H H' ∧ H' L = some (.lst ((xs : List Int).map V.int)) ∧
    xs ++ bcut f.toNat b l f = bestCuts n s ∧ 1 ≤ l ∧ l ≤ n ∧ 1 ≤ f ∧ f ≤ s ∧ m = f.toNat) s.toNat ?_ ?_
  · exact ⟨[], 0, n, s, none, rfl, Same.newT (Same.new hL) hT, (upd_ne hLT).trans upd_same, rfl, h1, Int.le_refl _, h3, Int.le_refl _, rfl⟩
  · rintro m σ H1 ⟨xs, b, l, f, v, rfl, s1, e1, e2, e3, e4, e5, e6, rfl⟩
    walk_at "rd"
    have fin : ¬ (1 < l ∧ 1 < f) → xs = bestCuts n s := by
      intro c
      rw [← e2]
      by_cases d : l = 1
      · rw [d, bcut_1, List.append_nil]
      · rw [bcut_s (by omega), List.append_nil]
    refine r_ite (fun c => ?_) fun c => ?_
    · walk_at "rd"
      refine r_ite (fun d => ?_) fun d => ?_
      · refine r_N ?_
        walk_at "rd"
        refine ⟨l, f, rfl, by omega, by omega, by omega, by omega, fun H2 s2 => ?_⟩
        walk_at "rd"
        refine ⟨l, f, rfl, by omega, by omega, by omega, by omega, fun p3 H3 s3 hp3 e33 => ?_⟩
        walk_at "rd"
        refine r_ixT (xs := [.int (loI l f), .int (hiI l f)]) (i := 1) (v := .int (hiI l f)) (SqT.of e33) rfl ?_
        walk_at "rd"
        have R := rangeI (n := l) (s := f) (by omega) (by omega)
        have sx := Same.trans s2 s3
        have lx : xs.length < 100 := by
          have a := ok.2
          rw [← e2, List.length_append] at a
          omega
        obtain ⟨g, hg⟩ : ∃ g, f.toNat = g + 1 := ⟨f.toNat - 1, by omega⟩
        have hg2 : (f - 1).toNat = g := by omega
        refine r_ite (fun k => ?_) fun k => ?_
        · walk_at "rd"
          refine r_app (sx _ _ e1) (by rw [List.length_map]; omega) ?_
          refine ⟨(f - 1).toNat, by omega, xs ++ [b + hiI l f], _, _, _, _, rfl, Same.mut (Same.trans s1 sx) hL, ?_, ?_, by omega, by omega, by omega, by omega, rfl⟩
          · rw [upd_same, List.map_append]; rfl
          · rw [hg2, List.append_assoc, ← e2, hg, bcut_go c d k]; rfl
        · walk_at "rd"
          refine ⟨(f - 1).toNat, by omega, xs, _, _, _, _, rfl, Same.trans s1 sx, sx _ _ e1, ?_, by omega, by omega, by omega, by omega, rfl⟩
          rw [← e2, hg, bcut_end c d k, show l - hiI l f = 1 by omega, bcut_1]
      · walk_at "rd"
        rw [fin (by omega)] at e1
        exact q L _ s1 hL e1
    · walk_at "rd"
      rw [fin (by omega)] at e1
      exact q L _ s1 hL e1
end
end Bs

namespace Bm
theorem rch_sym : ∀ s r : Nat, rch s r = rch r s
  | 0, r => by rw [rch_z, rch_s0]
  | s + 1, 0 => by rw [rch_s0, rch_z]
  | s + 1, r + 1 => by rw [rch_ss, rch_ss, rch_sym s (r + 1), rch_sym (s + 1) r]; omega
termination_by s r => (s, r)
/-- C(t + q, t) q = (t + 1) C(t + q, t + 1) -/
theorem rc_turn {t : Nat} {q : Int} (hq : 1 ≤ q) : rc t q * q = ((t : Int) + 1) * rc (t + 1) (q - 1) := by
  obtain ⟨k, e⟩ : ∃ k : Nat, q = (k : Int) + 1 := ⟨(q - 1).toNat, by omega⟩
  subst e
  have a := (rch_prod t (k + 1)).1
  have b := (rch_prod t (k + 1)).2
  have c : rch (t + 1) (k + 1) = rch t (k + 1) + rch (t + 1) k := rch_ss t k
  rw [if_neg (by omega), Nat.sub_zero, Nat.add_sub_cancel] at b
  rw [show (k : Int) + 1 - 1 = (k : Int) by omega, rc_nat (t + 1) k, show (k : Int) + 1 = ((k + 1 : Nat) : Int) by omega, rc_nat t (k + 1), show (t : Int) + 1 = ((t + 1 : Nat) : Int) by omega]
  have key : rch t (k + 1) * (k + 1) = (t + 1) * rch (t + 1) k := by
    rw [c, Nat.mul_add] at a
    have a' : (t + 1 + (k + 1)) * rch t (k + 1) = (t + 1) * rch t (k + 1) + (k + 1) * rch t (k + 1) := Nat.add_mul _ _ _
    have a2 : rch t (k + 1) * (k + 1) = (k + 1) * rch t (k + 1) := Nat.mul_comm _ _
    omega
  rw [← Int.natCast_mul, ← Int.natCast_mul, key]
theorem rc_turn_div {t : Nat} {q : Int} (hq : 1 ≤ q) : rc t q * q / ((t : Int) + 1) = rc (t + 1) (q - 1) := by
  rw [rc_turn hq, Int.mul_ediv_cancel_left _ (by omega)]
end Bm
namespace Bs
open PySem PySem.Spec L2 Bm
open PyProof.Rows hiding St
-- one step of a reading; side conditions; what a heap holds
local macro_rules | `(tactic| walk_at "sc") => `(tactic| (first
  | exact mulL ⟨by omega, by omega⟩ | exact mulR ⟨by omega, by omega⟩ | exact divS (by omega) (by omega) | exact (show (0 : Int) < _ by omega) | exact powS (b := 4) (by decide) (by decide) (by decide) (by decide) | assumption | omega))
local macro_rules | `(tactic| walk_at "ne") => `(tactic| (first
  | assumption | (apply Ne.symm; assumption) | exact ne_none (by assumption) (by walk_at "hp") | exact Ne.symm (ne_none (by assumption) (by walk_at "hp"))))
local macro_rules | `(tactic| walk_at "hp") => `(tactic| (first
  | assumption | exact upd_same | (refine (upd_ne ?k1).trans ?k2; (case k1 => walk_at "ne"); (case k2 => walk_at "hp")) | (refine Same.get (by assumption) ?_; walk_at "hp") | (refine But.get (by assumption) ?k1 ?k2; (case k1 => walk_at "hp"); (case k2 => walk_at "ne"))))
local macro_rules | `(tactic| walk_at "sq") => `(tactic| (first | assumption | exact SqL.of (by walk_at "hp") | exact SqT.of (by walk_at "hp")))
local macro_rules | `(tactic| walk_at "rd1") => `(tactic| (first
  | with_reducible refine r_seq ?_ | with_reducible refine r_asg ?_ | with_reducible refine r_asgG ?_ | with_reducible refine r_op ?_ | with_reducible refine r_var (by with_unfolding_all exact rfl) ?_ | with_reducible refine r_c ?_ | with_reducible refine r_I0 ?_ | with_reducible refine r_p30 ?_ | with_reducible refine r_p20 ?_ | with_reducible refine r_p27 ?_ | with_reducible refine r_p29 ?_ | with_reducible refine r_p38 ?_ | with_reducible refine r_p40 ?_ | with_reducible refine r_p42 ?_ | with_reducible refine r_p44 ?_ | with_reducible refine r_p49 ?_ | with_reducible refine r_p50 ?_ | with_reducible refine r_p60 ?_ | with_reducible refine r_p18 ?_ | with_reducible refine r_p12 ?_ | with_reducible refine r_p15 ?_ | with_reducible refine r_p9 ?_ | with_reducible refine r_p6 ?_ | with_reducible refine r_p64 ?_ | ((with_reducible refine r_I ?k1 ?k2); (case k1 => walk_at "sc")) | with_reducible refine r_U ?_ | with_reducible refine r_un ?_
  | with_reducible refine r_ret ?_ | with_reducible refine r_ifS ?_ | with_reducible refine r_test ?_ | with_reducible refine r_bl ?_ | with_reducible refine r_cb ?_ | with_reducible refine r_cons ?_ | with_reducible refine r_nil ?_ | with_reducible refine r_intI ?_ | with_reducible refine r_intB ?_ | refine r_max2' ?_ | refine r_min2' ?_ | with_reducible refine r_max3 ?_ | with_reducible refine r_min3 ?_
  | with_reducible refine r_call ?_ | with_reducible refine r_par ?_ | with_reducible refine r_and ?_ | with_reducible refine r_or ?_ | with_reducible refine r_not ?_ | with_reducible refine r_B ?_ | with_reducible refine r_andV ?_ | with_reducible refine r_orV ?_ | with_reducible refine r_notV ?_ | with_reducible refine r_ifE ?_ | with_reducible refine r_eqI ?_ | with_reducible refine r_neI ?_ | with_reducible refine r_eqB ?_ | with_reducible refine r_neB ?_ | with_reducible refine r_isN ?_ | with_reducible refine r_notN ?_
  | with_reducible refine r_chain ?_ | with_reducible refine r_chain3 ?_ | with_reducible refine r_drop ?_ | with_reducible refine r_next ?_ | with_reducible refine r_retN ?_ | with_reducible refine r_brk ?_ | with_reducible refine r_cont ?_ | with_reducible refine r_ex ?_
  | with_reducible refine r_tup ?_ | with_reducible refine r_lst ?_ | ((with_reducible refine r_new ?k1 ?k2); (case k1 => first | decide | exact Nat.le_of_ble_eq_true rfl)) | with_reducible refine r_sub ?_ | with_reducible refine r_gname ?_ | with_reducible refine r_gcons ?_ | with_reducible refine r_gnil ?_ | with_reducible refine r_slice ?_ | with_reducible refine r_noPart ?_ | with_reducible refine r_part ?_
  | with_reducible refine r_gtup (by with_unfolding_all walk_at "sq") (by with_unfolding_all exact rfl) ?_
  | with_reducible refine r_rng1 ?_ | with_reducible refine r_rng2 ?_ | ((with_reducible refine r_r1 ?k1 ?k2 ?k3); (case k1 => omega); (case k2 => omega)) | ((with_reducible refine r_r2 ?k1 ?k2); (case k1 => omega)) | with_reducible refine r_nonT ?_ | with_reducible refine r_nonI ?_ | with_reducible refine r_nonR ?_ | with_reducible refine r_notT ?_ | with_reducible refine r_notI ?_ | with_reducible refine r_notR ?_ | with_reducible refine r_for ?_ | with_reducible refine r_lc ?_ | with_reducible refine r_iL ?_ | with_reducible refine r_iT ?_ | with_reducible refine r_yesT ?_ | with_reducible refine r_same (by with_unfolding_all exact rfl) ?_ | with_reducible refine r_neS ?_ | with_reducible refine r_iteT ?_ | with_reducible refine r_iteF ?_ | with_reducible refine r_iteNT ?_ | with_reducible refine r_iteNF ?_
  | with_reducible refine r_aug (by with_unfolding_all exact rfl) ?_ | with_reducible refine r_ipI ?_ | with_reducible refine r_bm ?_ | with_reducible refine r_tyL (by with_unfolding_all walk_at "sq") ?_ | with_reducible refine r_enum ?_ | with_reducible refine r_en (by with_unfolding_all walk_at "sq") ?_ | with_reducible refine r_par3' ?_))
local macro_rules | `(tactic| walk_at "rd") => `(tactic| repeat walk_at "rd1")
section
variable (K : PySem.W.Frag) {vs : List V} {H : Hp} {Q : VK} {E : XK}
theorem pure_l_wound (h : sp_l_wound K vs H Q E) : t_l_wound K { nx := fun _ H' => Q .non H', rt := Q } (start n_l_wound vs) H := by
  obtain ⟨a, ns, k, rfl, hS, h1, h2, q⟩ := h
  show t_l_wound K _ [some (.ref a), some (.int k), none] H
  unfold t_l_wound
  refine r_seq (r_asg (r_c ?_))
  with_reducible refine r_join (fun σ' H' => H' = H ∧ ∃ c : Int, σ' = [some (.ref a), some (.int k), some (.int c)]) ?_ fun N nx => ?_
  · rintro σ' H' ⟨rfl, c, rfl⟩
    walk_at "rd"
    intro p hp
    exact q p _ (Same.new hp) hp ⟨_, _, _, upd_same, by omega, by omega, by omega, by omega⟩
  · walk_at "rd"
    refine r_lenL hS ?_
    walk_at "rd"
    refine r_ite (fun c => ?_) fun c => ?_
    · rw [List.length_map] at c
      obtain ⟨v, _, ev⟩ := atI_ints (xs := ns) h1 c
      walk_at "rd"
      refine r_ixL hS ev ?_
      exact nx _ _ ⟨rfl, v, rfl⟩
    · exact nx _ _ ⟨rfl, 0, rfl⟩
theorem Reel.ne {H : Hp} {a p : Addr} {f : Int} (g : Reel H a f) (h : H p = none) : p ≠ a := by
  rintro rfl
  obtain ⟨x, y, z, e, _⟩ := g
  rw [h] at e
  cases e
theorem Reel.new {H : Hp} {a p : Addr} {f : Int} {o : HO} (g : Reel H a f) (h : H p = none) : Reel (upd H p o) a f := by
  obtain ⟨x, y, z, e, k⟩ := g
  exact ⟨x, y, z, (upd_ne (ne_of_none e h)).trans e, k⟩
theorem Reel.at {H H' : Hp} {a : Addr} {f : Int} (g : Reel H a f) (s : Same H H') : Reel H' a f := by
  obtain ⟨x, y, z, e, k⟩ := g
  exact ⟨x, y, z, s _ _ e, k⟩
theorem Reel.upd {H : Hp} {a p : Addr} {f : Int} {o : HO} (g : Reel H a f) (h : a ≠ p) : Reel (L2.upd H p o) a f := by
  obtain ⟨x, y, z, e, k⟩ := g
  exact ⟨x, y, z, (upd_ne h).trans e, k⟩
theorem But.freeR {H H' : Hp} {a p : Addr} {f : Int} (b : But a H H') (h : H' p = none) (g : Reel H' a f) : H p = none := b.free h (g.ne h)
theorem pure_l_spin (h : sp_l_spin K vs H Q E) : t_l_spin K { nx := fun _ H' => Q .non H', rt := Q } (start n_l_spin vs) H := by
  obtain ⟨a, m, f, rfl, h1, h2, ⟨x, y, z, hb, y0, y1, z0, z1⟩, hf, q⟩ := h
  show t_l_spin K _ [some (.ref a), some (.int m), none, none] H
  unfold t_l_spin
  walk_at "rd"
  refine r_ixL (xs := [.int x, .int y, .int z]) (i := 0) (v := .int x) (SqL.of hb) rfl ?_
  walk_at "rd"
  refine r_ite (fun c => ?_) fun c => ?_
  · walk_at "rd"
    refine r_ixL (xs := [.int x, .int y, .int z]) (i := 0) (v := .int x) (SqL.of hb) rfl ?_
    walk_at "rd"
    refine r_ixL (xs := [.int x, .int y, .int z]) (i := 0) (v := .int x) (SqL.of hb) rfl ?_
    walk_at "rd"
    refine r_I (divP (b := 220) (by omega) (by omega) (by decide) (by decide)) ?_
    walk_at "rd"
    refine r_setL hb (jj := 0) rfl ?_
    walk_at "rd"
    exact q _ _ (Int.emod_nonneg _ (by omega)) (Int.emod_lt_of_pos _ (by omega)) (But.refl a H).upd ⟨_, _, _, upd_same, y0, y1, z0, by omega⟩
  · walk_at "rd"
    refine r_ixL (xs := [.int x, .int y, .int z]) (i := 2) (v := .int z) (SqL.of hb) rfl ?_
    walk_at "rd"
    refine r_setL hb (jj := 2) rfl ?_
    walk_at "rd"
    have hb1 : (upd H a (.lst ([V.int x, .int y, .int z].set 2 (.int (z + 1))))) a = some (.lst [.int x, .int y, .int (z + 1)]) := upd_same
    have b1 : But a H (upd H a (.lst ([V.int x, .int y, .int z].set 2 (.int (z + 1))))) := (But.refl a H).upd
    generalize upd H a (.lst ([V.int x, .int y, .int z].set 2 (.int (z + 1)))) = H1 at hb1 b1 ⊢
    refine r_ixL (xs := [.int x, .int y, .int (z + 1)]) (i := 1) (v := .int y) (SqL.of hb1) rfl ?_
    walk_at "rd"
    refine r_ixL (xs := [.int x, .int y, .int (z + 1)]) (i := 2) (v := .int (z + 1)) (SqL.of hb1) rfl ?_
    walk_at "rd"
    refine r_I (powS (b := 220) (by decide) (by omega) (by decide) (by decide)) ?_
    walk_at "rd"
    refine r_ixL (xs := [.int x, .int y, .int (z + 1)]) (i := 2) (v := .int (z + 1)) (SqL.of hb1) rfl ?_
    walk_at "rd"
    refine r_I (powS (b := 220) (by decide) (by omega) (by decide) (by decide)) ?_
    walk_at "rd"
    exact q _ _ (Int.emod_nonneg _ (by omega)) (Int.emod_lt_of_pos _ (by omega)) b1 ⟨_, _, _, hb1, y0, y1, by omega, by omega⟩
theorem choose_turn {s r : Int} {i : Nat} (hs : s ≤ 102) (hi : (i : Int) < s) (hr : (i : Int) < r) (h : r ≤ 2 ^ 109) : IntMulOk (rcI i (s + r - i)) (s + r - i) ∧ rcI i (s + r - i) * (s + r - i) / ((i : Int) + 1) = rcI ((i : Int) + 1) (s + r - ((i : Int) + 1)) := by
  constructor
  · exact mulW (a := 12300) (b := 112) (rcI_le (by omega) (by omega) (by omega) (by omega)) (by omega) (by decide) (by decide) (by decide)
  · have e := rc_turn_div (t := i) (q := s + r - i) (by omega)
    unfold rcI
    rw [Int.toNat_natCast, show ((i : Int) + 1).toNat = i + 1 by omega, show s + r - ((i : Int) + 1) = s + r - (i : Int) - 1 by omega]
    exact e
theorem choose_end {s r : Int} (hs : 1 ≤ s) (hr : 0 ≤ r) : rcI (min s r) (s + r - min s r) = rcI s r := by
  by_cases c : s ≤ r
  · rw [show min s r = s by omega, show s + r - s = r by omega]
  · rw [show min s r = r by omega, show s + r - r = s by omega]
    unfold rcI
    rw [rc_of (by omega), rc_of hr, rch_sym]
theorem pure_l_choose (h : sp_l_choose K vs H Q E) : t_l_choose K { nx := fun _ H' => Q .non H', rt := Q } (start n_l_choose vs) H := by
  obtain ⟨s, r, rfl, h1, h2, h3, h4, q⟩ := h
  show t_l_choose K _ [some (.int s), some (.int r), none, none] H
  unfold t_l_choose
  walk_at "rd"
  refine for_range (fun i σ H' => H' = H ∧ ∃ v, σ = [some (.int s), some (.int r), some (.int (rcI i (s + r - i))), v]) ⟨rfl, none, ?_⟩ ?_ ?_
  · unfold rcI; rw [show ((0 : Nat) : Int).toNat = 0 from rfl, rc_0]; rfl
  · rintro i σ H' hi ⟨rfl, v, rfl⟩
    obtain ⟨a, b⟩ := choose_turn (s := s) (r := r) (i := i) h2 (by omega) (by omega) h4
    walk_at "rd"
    refine r_I (by rw [show s + r - (0 + (i : Int)) = s + r - i by omega]; exact a) ?_
    walk_at "rd"
    refine ⟨rfl, some (.int (0 + (i : Int))), ?_⟩
    rw [show s + r - (0 + (i : Int)) = s + r - i by omega, show 0 + (i : Int) + 1 = (i : Int) + 1 by omega, b]
    rfl
  · rintro σ H' ⟨rfl, v, rfl⟩
    walk_at "rd"
    refine r_ite (fun c => ?_) fun c => ?_
    · walk_at "rd"
      rw [show ((min s (max r 0)).toNat : Int) = min s r by omega, choose_end h1 c]
      exact q
    · walk_at "rd"
      rw [show r = -1 by omega, rcI_m1 h1] at q
      exact q
theorem pure_l_great (h : sp_l_great K vs H Q E) : t_l_great K { nx := fun _ H' => Q .non H', rt := Q } (start n_l_great vs) H := by
  obtain ⟨a, f, rfl, g0, hf, q⟩ := h
  show t_l_great K _ [some (.ref a), none, none, none] H
  unfold t_l_great
  walk_at "rd"
  intro p1 hp1
  have n1 := g0.ne hp1
  walk_at "rd"
  refine ⟨a, 2, f, rfl, by omega, by omega, g0.new hp1, by omega, fun r1 H1 a1 a2 b1 g1 => ?_⟩
  obtain ⟨v1, m1, e1⟩ := atI_ints (xs := [4, 100]) a1 a2
  refine r_ixL (xs := [.int 4, .int 100]) (SqL.of (b1.get upd_same n1)) e1 ?_
  have w1 : 1 ≤ v1 ∧ v1 ≤ 100 := by simp at m1; omega
  walk_at "rd"
  refine ⟨a, v1, f - 1, rfl, by omega, by omega, g1, by omega, fun r2 H2 c1 c2 b2 g2 => ?_⟩
  walk_at "rd"
  intro p2 hp2
  have n2 := g2.ne hp2
  walk_at "rd"
  refine ⟨a, 2, f - 1 - 1, rfl, by omega, by omega, g2.new hp2, by omega, fun r3 H3 d1 d2 b3 g3 => ?_⟩
  obtain ⟨v2, m2, e2⟩ := atI_ints (xs := [9, 60]) d1 d2
  refine r_ixL (xs := [.int 9, .int 60]) (SqL.of (b3.get upd_same n2)) e2 ?_
  have w2 : 1 ≤ v2 ∧ v2 ≤ 60 := by simp at m2; omega
  walk_at "rd"
  refine ⟨a, v2, f - 1 - 1 - 1, rfl, by omega, by omega, g3, by omega, fun r4 H4 f1 f2 b4 g4 => ?_⟩
  walk_at "rd"
  refine ⟨1 + r2, r4, rfl, by omega, by omega, by omega, by omega, ?_⟩
  have C := rc_pos (s := (1 + r2).toNat) (r := r4) (by omega)
  have C1 : 1 ≤ rcI (1 + r2) r4 := C
  walk_at "rd"
  refine ⟨a, 1000000000000000000000000000000, f - 1 - 1 - 1 - 1, rfl, by omega, by omega, g4, by omega, fun r5 H5 k1 k2 b5 g5 => ?_⟩
  walk_at "rd"
  refine ⟨a, 1000000000, f - 1 - 1 - 1 - 1 - 1, rfl, by omega, by omega, g5, by omega, fun r6 H6 l1 l2 b6 g6 => ?_⟩
  walk_at "rd"
  refine ⟨a, 3, f - 1 - 1 - 1 - 1 - 1 - 1, rfl, by omega, by omega, g6, by omega, fun r7 H7 o1 o2 b7 g7 => ?_⟩
  walk_at "rd"
  intro p3 hp3
  have n3 := g7.ne hp3
  walk_at "rd"
  refine ⟨a, 3, f - 1 - 1 - 1 - 1 - 1 - 1 - 1, rfl, by omega, by omega, g7.new hp3, by omega, fun r8 H8 t1 t2 b8 g8 => ?_⟩
  obtain ⟨v3, m3, e3⟩ := atI_ints (xs := [1 + r5, 1 + r6, max 1 (min (1000000000000000000000000000000 - 1) (rcI (1 + r2) r4) - 1 + r7)]) t1 t2
  refine r_ixL (xs := [.int (1 + r5), .int (1 + r6), .int (max 1 (min (1000000000000000000000000000000 - 1) (rcI (1 + r2) r4) - 1 + r7))]) (SqL.of (b8.get upd_same n3)) e3 ?_
  have w3 : 1 ≤ v3 ∧ v3 ≤ 1000000000000000000000000000000 := by
    simp only [List.mem_cons, List.not_mem_nil, or_false] at m3
    omega
  have bt : But a H H8 := ((((((But.refl a H).new hp1).trans b1).trans b2).new hp2).trans (b3.trans (b4.trans (b5.trans (b6.trans b7))))).new hp3 |>.trans b8
  walk_at "rd"
  intro p hp
  rw [show f - 1 - 1 - 1 - 1 - 1 - 1 - 1 - 1 = f - 8 by omega] at g8
  exact q v3 (1 + r2) p _ w3.1 w3.2 (by omega) (by omega) (bt.new hp) (g8.new hp) (bt.freeR hp g8) upd_same
end
end Bs

namespace Bs
open PySem PySem.Spec L2
open PyProof.Rows hiding St
/-! ### defs that lean on it that no repr is under way (A.guards = some []): repr of lists and tuples -/
structure FnG (P : Program) (w : World) (K : PySem.W.Frag) (mg : Str → Option Value) (base : Heap) (CX : CXT) (k : Nat) (f : Addr) (fd : FuncData) (ps : List Str) (sp : Sp) : Prop where
  size : ∀ vs H Q E, sp vs H Q E → vs.length = ps.length
  runs : ∀ (A : Around) (outer : List Env) (s : Shared) (H : Hp) (args : Args) (us : List Value) (vs : List V) (Q : VK) (E : XK), Room k A → A.guards = some [] → Env0 P w K mg base A outer s H → BindsTo s fd args (ps.zip us) → Vals vs us → sp vs H Q E →
    codeAny (model P w) A (.call (.ref f) args) (CR CX outer P w H s Q E) s
def OkG (P : Program) (w : World) (K : PySem.W.Frag) (mg : Str → Option Value) (base : Heap) (CX : CXT) (k : Nat) (x : Str) (ps : List Str) (sp : Sp) : Prop :=
  mg x = some (.ref (He.ga K x)) ∧ PySem.W.keepIn K (.ref (He.ga K x)) = true ∧ ∃ fd, (∃ oc od osl, K.lookup (He.ga K x) = some ⟨oc, od, .func fd, osl⟩) ∧ Binds K fd ps [] ∧ FnG P w K mg base CX k (He.ga K x) fd ps sp
section
variable {P : Program} {w : World} {K : PySem.W.Frag} {mg : Str → Option Value} {base : Heap} {CX : CXT} {k : Nat}
theorem FnOk.g {f : Addr} {fd : FuncData} {ps : List Str} {sp : Sp} (F : FnOk P w K mg base CX k f fd ps sp) : FnG P w K mg base CX k f fd ps sp := ⟨F.len, fun A outer s H args us vs Q E hr _ => F.run A outer s H args us vs Q E hr⟩
theorem fnG_of {f : Addr} {name qual : Str} {params : Arguments} {body : List Stmt} {scope : Scope} {dV kV doc pm cdv ct oc : Value} {an od : Option Addr} {osl : Array (Option Value)} {N ps : List Str} {sp : Sp}
    (lk : K.lookup f = some ⟨oc, od, .func (PySem.W.fnOf name qual params body scope dV kV doc pm an cdv ct), osl⟩) (hcd : PySem.W.codeIn K cdv qual = true) (S : FnScope N ps scope) (len : ∀ vs H Q E, sp vs H Q E → vs.length = ps.length)
    (go : ∀ (A : Around) (outer : List Env) (s : Shared) (H : Hp) (vs : List V) (Q : VK) (E : XK), Room k (A.deeper (envOfC qual scope s.heap.objs.size f cdv)) → A.guards = some [] → sp vs H Q E →
      ∃ t, PSs (cxOf CX P w K mg base N qual scope f cdv A outer s H E) body t ∧ t { nx := fun _ H' => Q .non H', rt := Q } (start N vs) H) :
    FnG P w K mg base CX (k + 1) f (PySem.W.fnOf name qual params body scope dV kV doc pm an cdv ct) ps sp := by
  refine ⟨len, fun A outer s H args us vs Q E room gd env binds rel promise => ?_⟩
  have kin : K.In s.heap := env.mod.kin.keeps fun b o e => (env.bs b o e).1
  have nolim : s.heap.NoLimit := env.mod.nolimit.keeps fun b o e => (env.bs b o e).1
  have kinds : ∀ y ∈ ps.zip us, scope.names.lookup y.1 = some .local ∨ (scope.names.lookup y.1 = some .cell ∧ ((cellsFrom (s.heap.objs.size + 1) scope.names []).lookup y.1).isSome = true) := by
    rintro ⟨n, v⟩ hy
    exact (S.par n (List.of_mem_zip hy).1).imp id fun q => ⟨q, PySem.W.cellsFrom_some _ _ _ (.inl q)⟩
  refine codeAny_call_function room.depth (kin _ _ lk) rfl S.co S.gen rfl (PySem.W.codeRec_of kin hcd) (binds _ _ _ _ (wpAny_newFunctionEnv_cells S.kind kinds fun en he s1 x => ?_))
  subst he
  obtain ⟨t, ht, hq⟩ := go A outer s H vs Q E (room.deeper _) gd promise
  have I0 : Inv (cxOf CX P w K mg base N qual scope f cdv A outer s H E) [] (start N vs) H s1 := inv_start S room.hd env (len _ _ _ _ promise) rel x
  refine ⟨nolim.keeps x.toInCall.keep, codeAny_func (wpAny_mono (ht.run [] s1 (start N vs) H _ I0 hq) (fun fl s' hs => ?_) fun e s' hs => hs)⟩
  match fl, hs with
  | .ret u, ⟨v, _, H', J, rv, q⟩ => exact ⟨v, H', J.os, J.bare, J.base, J.hok, rv, q⟩
  | .next, ⟨_, H', J, q⟩ => exact ⟨V.non, H', J.os, J.bare, J.base, J.hok, rfl, q⟩
  | .brk, ⟨_, _, _, q⟩ => exact q.elim
  | .cont, ⟨_, _, _, q⟩ => exact q.elim
theorem mk_okG {x : Str} {st : Stmt} {N ps : List Str} {sp : Sp} (F : Df K ⟨(x, none), x, x, defArgs st, defBody st, defScope st, [], []⟩) (g : mg x = some (.ref (He.ga K x)))
    (hb : ∀ (kV doc pm : Value) (an : Option Addr) (cdv ct : Value) (us : List Value), us.length = ps.length → bindArgs (PySem.W.fnOf x x (defArgs st) (defBody st) (defScope st) .none kV doc pm an cdv ct) ⟨us, []⟩ = pure (ps.zip us))
    (S : FnScope N ps (defScope st)) (len : ∀ vs H Q E, sp vs H Q E → vs.length = ps.length)
    (go : ∀ (cdv : Value) (A : Around) (outer : List Env) (s : Shared) (H : Hp) (vs : List V) (Q : VK) (E : XK), Room k (A.deeper (envOfC x (defScope st) s.heap.objs.size (He.ga K x) cdv)) → A.guards = some [] → sp vs H Q E →
      ∃ t, PSs (cxOf CX P w K mg base N x (defScope st) (He.ga K x) cdv A outer s H E) (defBody st) t ∧ t { nx := fun _ H' => Q .non H', rt := Q } (start N vs) H) : OkG P w K mg base CX (k + 1) x ps sp := by
  obtain ⟨fd, F⟩ := F
  have b := F.bindsN hb
  obtain ⟨oc, od, dV, kV, doc, pm, an, cdv, ct, osl, rfl, lk, hcd, _, _⟩ := F.ex
  exact ⟨g, F.kp, _, ⟨oc, od, osl, lk⟩, b, fnG_of lk hcd S len fun A outer s H vs Q E room gd h => go cdv A outer s H vs Q E room gd h⟩
theorem fun_sameG {x : Str} {ps : List Str} {sp : Sp} {d : He.DefD} {fd : FuncData} (F : FunD K d.name d.qual d.params d.body d.scope (d.dvs K) (d.kws K) (He.fAd K d.at_) fd) (e : He.fAd K d.at_ = He.ga K x) (G : OkG P w K mg base CX k x ps sp) :
    FnG P w K mg base CX k (He.ga K x) fd ps sp := by
  obtain ⟨_, _, fd2, ⟨oc, od, osl, l⟩, _, G⟩ := G
  obtain ⟨oc2, od2, _, _, _, _, _, _, _, osl2, _, lk, _⟩ := F.ex
  rw [e, l] at lk
  have e2 := Option.some.inj lk
  injection e2 with _ _ e3 _
  injection e3 with e4
  rw [← e4]
  exact G
end
section
variable {X : Cx} {CX : CXT} {k : Nat} {ps : List Str} {sp : Sp} {E : XK} {x : Str} {p pos : Pos} {e : Expr} {es : List Expr} {t : TA}
theorem run_g {f : Addr} {fd : FuncData} {pins : List (Addr × Obj)} {σ : L2.St} {H : Hp} {s : Shared} {Q : VK} {us : List Value} {vs : List V} (F : FnG X.prog X.w X.K X.mg X.base CX k f fd ps sp) (hr : Room k X.A) (gd : X.A.guards = some []) (hb : Binds X.K fd ps []) (hx : Passes CX X E)
    (I : L2.Inv X pins σ H s) (r : Vals vs us) (h : sp vs H Q E) : wpAny (model X.prog X.w) X.A (call (.ref f) us) (EP X pins σ Q) X.xe s := by
  have hl : us.length = ps.length := by rw [← r.length]; exact F.size _ _ _ _ h
  have b := hb s us I.kIn (by rw [List.append_nil]; exact hl)
  rw [List.append_nil] at b
  refine wpAny_call (codeAny_mono (F.runs X.A X.stack s H ⟨us, []⟩ us vs Q E hr gd I.env0 b r h) fun res s' hq => ?_)
  match res, hq with
  | .error e, hq => exact hx pins σ H s e s' I hq
  | .ok (.ret u), hq => exact I.after hq
theorem pe_callG (F : OkG X.prog X.w X.K X.mg X.base CX k x ps sp) (hr : Room k X.A) (gd : X.A.guards = some []) (hg : Gl X x) (hx : Passes CX X E)
    (ha : PA X (e :: es) t) (hdb : (x == ("__debug__" : Str)) = false := by decide) (he : starEach (e :: es) X.env = (false, eval e X.env) :: starEach es X.env := by rfl) (hpl : (backTo pos (starEach es X.env)).any (·.1) = false := by rfl) :
    PE X (.Call (.Name x p) (e :: es) [] pos) (tCall sp [] E t) := by
  obtain ⟨g, kp, fd, _, b, G⟩ := F
  refine ⟨fun pins s σ H Q I h => wpAny_Call_Name_kw (ld_glob I hg g ?_ hdb)⟩
  refine PySem.W.callWith_K (h₀ := X.base) I.ok.mod.kin kp (thn (ha.run pos pins s σ H _ I h) fun us s1 ⟨vs, H1, I1, r, q⟩ => ⟨I1.kIn, ?_⟩) he hpl
  have q' : sp (vs ++ []) H1 Q E := q
  rw [List.append_nil] at q'
  exact run_g G hr gd b hx I1 r q'
/-! repr of data -/
def oReprD (K : PySem.W.Frag) : List V → Hp → VK → Prop := fun xs H Q => ∃ p d, xs = [V.ref p] ∧ Dp K H (.ref p) d ∧ d.showable = true ∧ d.hasDict = false ∧ d.depth ≤ 50 ∧ d.shown.length ≤ sizeLine ∧ Q (.str d.shown) H
theorem call_reprD (hr : Room k X.A) (gd : X.A.guards = some []) : CallR X (.builtin "repr") (oReprD X.K) := by
  intro pins s σ H xs us Q I r h
  obtain ⟨p, d, rfl, dp, h1, h2, h3, h4, q⟩ := h
  have e := Vals.ref1 r
  subst e
  obtain ⟨as, rd⟩ := Dp.reads I d (.ref p) (.ref p) dp rfl
  have u := hr.units
  exact repr_of_reads' rd h1 (fun z => by rw [h2] at z; cases z) gd (by omega) (fun _ _ e => e) (fun h' u tk kp => ⟨.str d.shown, H, I.kept kp, ⟨u, rfl⟩, q⟩) h4
end
section
variable {H : Hp} {Q : VK} {K : PySem.W.Frag}
theorem r_reprD {p : Addr} {d : PyData} (dp : Dp K H (.ref p) d) (h1 : d.showable = true) (h2 : d.hasDict = false) (h3 : d.depth ≤ 50) (h4 : d.shown.length ≤ sizeLine) (h : Q (.str d.shown) H) : oReprD K [.ref p] H Q := ⟨p, d, rfl, dp, h1, h2, h3, h4, h⟩
end
/-! the head -/
theorem law_callG {P : Program} {w : World} {K : PySem.W.Frag} {mg mb : Str → Option Value} {k : Nat} {fa a : Addr} {fd : FuncData} {x : Str} {sp : Sp} {s₁ : Shared} {vs : List Value} {ns : List Int}
    (KX : K.In s₁.heap) (hns : s₁.heap.Ns mainGlobals mg) (hb : s₁.heap.Ns builtinsNs mb) (hbb : ∀ x : Str, x ≠ "__name__" → mb x = bootBuiltins x) (hlim : s₁.heap.NoLimit) (hg : s₁.gens = #[])
    (ha : s₁.heap.get? a = some { cls := .type "list", data := .seq vs.toArray }) (hi : IntsAre vs ns) (hl : ns.length ≤ sizeLine) (hr : Room k callerA)
    (F : ∀ base : Heap, K.In base → base.Ns mainGlobals mg → FnG P w K mg base CX0 k fa fd [x] sp) (hbind : ∀ (s : Shared) (u : Value), BindsTo s fd ⟨[u], []⟩ [(x, u)])
    (hsp : ∀ H : Hp, SqL K H a (ns.map V.int) → sp [.ref a] H (fun v _ => v = .bl true) fun _ _ _ => False) :
    codeAny (model P w) callerA (.call (.ref fa) ⟨[.ref a], []⟩) (fun r s' => r = .ok (.ret (.bool true)) ∧ OldK s₁.heap s'.heap ∧ s'.os = s₁.os ∧ AllBare s'.gens) s₁ := by
  have rel := vals_ints hi
  have lens := hi.length
  have step : ∀ H : Hp, Only H → SqL K H a (ns.map V.int) → HOk P w H s₁.heap → (∀ b, H b ≠ none → b = a) → (H a ≠ none → K.lookup a = none) →
      codeAny (model P w) callerA (.call (.ref fa) ⟨[.ref a], []⟩) (fun r s' => r = .ok (.ret (.bool true)) ∧ OldK s₁.heap s'.heap ∧ s'.os = s₁.os ∧ AllBare s'.gens) s₁ := by
    intro H only script hok onlyA notK
    have free : ∀ {b : Addr}, b ≠ a → H b = none := fun {b} n => by
      cases q : H b with
      | none => rfl
      | some u => exact absurd (onlyA b (by rw [q]; simp)) n
    have dictFree : ∀ {b : Addr} {o : Obj} {es : Array DictEntry} {ep : Nat}, s₁.heap.get? b = some o → o.data = .dict es ep → H b = none := fun {b o es ep} e d => free fun z => by
      rw [z, ha] at e
      cases e
      exact nomatch d
    have inBase : ∀ {b : Addr} {m : Str → Option Value}, s₁.heap.Ns b m → (hidT s₁.heap H).Ns b m := fun ⟨o, es, ep, e, d, r⟩ => ⟨o, es, ep, hidT_get e (dictFree e d), d, r⟩
    have kBase : K.In (hidT s₁.heap H) := fun b o e => hidT_get (KX b o e) (by
      cases q : H b with
      | none => rfl
      | some u =>
        have z := onlyA b (by rw [q]; simp)
        rw [z] at e q
        rw [notK (by rw [q]; simp)] at e
        cases e)
    have md : Mod K mg (hidT s₁.heap H) := ⟨kBase, inBase hns, ⟨mb, inBase hb, hbb⟩, let ⟨mc, z1, z2⟩ := hlim; ⟨mc, inBase z1, z2⟩⟩
    have en : Env0 P w K mg (hidT s₁.heap H) callerA [] s₁ H := ⟨rfl, md, fun b o e => of_hidT e, Nat.le_of_eq (hidT_size _ _), trivial, fun b z => absurd (show b ∈ ([] : List Addr) from z) (by simp), hok, .of_eq hg⟩
    refine codeAny_mono ((F _ kBase (inBase hns)).runs callerA [] s₁ H ⟨[.ref a], []⟩ [.ref a] [.ref a] _ _ hr rfl en (hbind s₁ (.ref a)) (.cons rfl .nil) (hsp H script)) fun r s' z => ?_
    match r, z with
    | .error e, z => exact z.elim
    | .ok (.ret u), ⟨v, H', os, bare, un, hok', rv, q⟩ =>
      subst q
      obtain rfl : u = Value.bool true := rv
      refine ⟨rfl, OldK.of_keep fun b o e => ?_, os, bare⟩
      cases hb2 : H b with
      | none => exact un.keep b o e hb2 (fun z => nomatch z) (fun z => nomatch z)
      | some u =>
        rcases only b with z | ⟨ob, xs, z⟩
        · rw [hb2] at z; cases z
        · obtain ⟨e1, _⟩ := hok b _ z
          obtain ⟨e2, _⟩ := hok' b _ (un.frzs b ob _ z)
          rw [e] at e1
          cases e1
          exact e2
  cases hk : K.lookup a with
  | some o =>
    have e := KX a o hk
    rw [ha] at e
    cases e
    exact step (fun _ => none) (fun _ => .inl rfl) (.inr ⟨_, vs.toArray, _, hk, rfl, rfl, rfl, by rw [List.size_toArray, lens]; exact hl, by simpa using rel⟩) (fun b u z => nomatch z) (fun b z => absurd rfl z) (fun z => absurd rfl z)
  | none =>
    obtain ⟨Hs, at_a, off⟩ : ∃ Hs : Hp, Hs a = some (.frz { cls := .type "list", data := .seq vs.toArray } (.lst (ns.map V.int))) ∧ ∀ b, b ≠ a → Hs b = none := ⟨fun b => if b = a then some (.frz { cls := .type "list", data := .seq vs.toArray } (.lst (ns.map V.int))) else none, if_pos rfl, fun b n => if_neg n⟩
    refine step Hs (fun b => ?_) (.inl (.inr ⟨_, at_a⟩)) (fun b u z => ?_) (fun b z => ?_) fun _ => hk
    · by_cases n : b = a
      · exact .inr ⟨_, _, by rw [n]; exact at_a⟩
      · exact .inl (off b n)
    · by_cases n : b = a
      · subst n
        have z' := at_a.symm.trans z
        cases z'
        exact ⟨ha, by rw [List.length_map]; exact hl, vs, _, rel, ha⟩
      · have z' := (off b n).symm.trans z
        cases z'
    · exact Decidable.byContradiction fun n => z (off b n)
theorem walk_ofG {l : PySem.W.OpenLaw} {n k : Nat} {q : Program} {loose : List Str} {XP : (Str → Option Value) → Heap → Prop} {YP : World → Heap → Prop} {d : DefRec} {x : Str} (hn : l.most = some n) (hn2 : n ≤ sizeLine) (hdf : d.params.defaults = []) (hr : Room k callerA)
    (F : ∀ (w : World) (mg : Str → Option Value) (fa : Addr) (h : Heap), YP w h → h.Ns mainGlobals mg → mg d.name = some (.ref fa) →
      ∃ (K : PySem.W.Frag) (fd : FuncData) (sp : Sp), K.In h ∧ (∀ (s : Shared) (u : Value), BindsTo s fd ⟨[u], []⟩ [(x, u)]) ∧
        (∀ (H : Hp) (a : Addr) (ns : List Int), ns.length ≤ n → SqL K H a (ns.map V.int) → sp [.ref a] H (fun v _ => v = .bl true) fun _ _ _ => False) ∧ ∀ base : Heap, K.In base → base.Ns mainGlobals mg → FnG l.prog w K mg base CX0 k fa fd [x] sp) :
    PySem.W.WalkO q loose XP YP l.row.toRowW d [] (fun f vs => PySem.call f vs) := by
  refine Att.attach_call hn hdf fun w s₀ s₁ mg mb fa o pm cd doc a vs ns G Y ho hd hcd hmg hobj hints hlen hg => ?_
  obtain ⟨K, fd, sp, KX, bind, ans, fn⟩ := F w mg fa _ Y G.T.g hmg
  exact law_callG KX G.T.g G.T.b G.T.builtins G.T.nolimit hg hobj hints (Nat.le_trans hlen hn2) hr fn bind fun H hS => ans H a ns hlen hS
end Bs

namespace Bs
open PySem PySem.Spec L2 Bm
open PyProof.Rows hiding St
def sp_l_rounds_k08 (_ : PySem.W.Frag) : Sp := fun vs H Q _ => ∃ n s, vs = [.int n, .int s] ∧ 1 ≤ n ∧ n ≤ 2 ^ 100 ∧ 1 ≤ s ∧ s ≤ 101 ∧ ∀ H', Same H H' → Q (.int (rhoI n s)) H'
def sp_l_least_k08 (_ : PySem.W.Frag) : Sp := fun vs H Q _ => ∃ n s, vs = [.int n, .int s] ∧ 1 ≤ n ∧ n ≤ 2 ^ 100 ∧ 1 ≤ s ∧ s ≤ 101 ∧ ∀ H', Same H H' → Q (.int (ttI n s)) H'
def sp_l_right_k08 (_ : PySem.W.Frag) : Sp := fun vs H Q _ => ∃ a n f, vs = [.ref a, .int n] ∧ 1 ≤ n ∧ n ≤ 1000000000000000000000000000000 ∧ Reel H a f ∧ 30 ≤ f ∧ ∀ f' H', f - 30 ≤ f' → But a H H' → Reel H' a f' → Q (.bl true) H'
def sp_law_k08 (K : PySem.W.Frag) : Sp := fun vs H Q _ => ∃ (a : Addr) (ns : List Int), vs = [.ref a] ∧ SqL K H a (ns.map V.int) ∧ ns.length ≤ 63 ∧ ∀ H', Q (.bl true) H'

theorem len_l_rounds_k08 (K : PySem.W.Frag) {vs : List V} {H : Hp} {Q : VK} {E : XK} (h : sp_l_rounds_k08 K vs H Q E) : vs.length = 2 := by
  obtain ⟨_, _, rfl, _⟩ := h
  rfl
theorem len_l_least_k08 (K : PySem.W.Frag) {vs : List V} {H : Hp} {Q : VK} {E : XK} (h : sp_l_least_k08 K vs H Q E) : vs.length = 2 := by
  obtain ⟨_, _, rfl, _⟩ := h
  rfl
theorem len_l_right_k08 (K : PySem.W.Frag) {vs : List V} {H : Hp} {Q : VK} {E : XK} (h : sp_l_right_k08 K vs H Q E) : vs.length = 2 := by
  obtain ⟨_, _, _, rfl, _⟩ := h
  rfl
theorem len_law_k08 (K : PySem.W.Frag) {vs : List V} {H : Hp} {Q : VK} {E : XK} (h : sp_law_k08 K vs H Q E) : vs.length = 1 := by
  obtain ⟨_, _, rfl, _⟩ := h
  rfl

/-- rounds: slots 0 l_length, 1 l_slots, 2 l_low, 3 l_high, 4 l_middle -/
abbrev n_l_rounds_k08 : List Str := ["_law_length", "_law_slots", "_law_low", "_law_high", "_law_middle"]
def t_l_rounds_k08 (K : PySem.W.Frag) : TS :=
  (tSeq (tAsg (tTup (tCons (tUn uNeg (tC (.int 1))) (tCons (tC (.int 1)) tNil))) (gTup K 2 (gCons (gName 2) (gCons (gName 3) gNil))))
  (tSeq (tWhile (tTest (tOp oLt (tCall (sp_l_choose K) [] E0 (tCons (tVar 1) (tCons (tVar 3) tNil))) (tVar 0)))
  (tPar 2 3 (tCons (tVar 3) (tCons (tOp oMulA (tC (.int 2)) (tVar 3)) tNil))))
  (tSeq (tWhile (tTest (tOp oGt (tOp oSub (tVar 3) (tVar 2)) (tC (.int 1))))
  (tSeq (tAsg (tOp oDivP (tOp oAdd (tVar 2) (tVar 3)) (tC (.int 2))) (gName 4))
  (tIfS (tTest (tOp oLt (tCall (sp_l_choose K) [] E0 (tCons (tVar 1) (tCons (tVar 4) tNil))) (tVar 0))) (tAsg (tVar 4) (gName 2)) (tAsg (tVar 4) (gName 3)))))
  (tRet (tVar 3)))))
/-- least: slots 0 l_length, 1 l_slots, 2 l_r -/
abbrev n_l_least_k08 : List Str := ["_law_length", "_law_slots", "_law_r"]
def t_l_least_k08 (K : PySem.W.Frag) : TS :=
  (tSeq (tAsg (tCall (sp_l_rounds_k08 K) [] E0 (tCons (tVar 0) (tCons (tVar 1) tNil))) (gName 2))
  (tRet (tOp oSub (tOp oMulA (tVar 2) (tVar 0)) (tCall (sp_l_choose K) [] E0 (tCons (tOp oAdd (tVar 1) (tC (.int 1))) (tCons (tOp oSub (tVar 2) (tC (.int 1))) tNil))))))
/-- right: slots 0 l_reel, 1 l_n, 2 l_costs, 3 l_turn, 4 l_s, 5 l_asked, 6 l_steps, 7 l_fit, 8 l_one, 9 l_other, 10 l_prices, 11 l_spot -/
abbrev n_l_right_k08 : List Str := ["_law_reel", "_law_n", "_law_costs", "_law_turn", "_law_s", "_law_asked", "_law_steps", "_law_fit", "_law_one", "_law_other", "_law_prices", "_law_spot"]
def t_l_right_k08 (K : PySem.W.Frag) : TS :=
  (tSeq (tAsg (tLc (iRng2 (tCons (tC (.int 1)) (tCons (tC (.int 102)) tNil))) (gName 4) tYes (tCall (sp_l_least_k08 K) [] E0 (tCons (tVar 1) (tCons (tVar 4) tNil))) [4]) (gName 2))
  (tSeq (tFor (iRng1 (tCons (tC (.int 4)) tNil)) (gName 3)
  (tSeq (tAsg (tOp oAdd (tC (.int 1)) (tCall (sp_l_spin K) [] E0 (tCons (tVar 0) (tCons (tC (.int 100)) tNil)))) (gName 4))
  (tIfS (tTest (tOp rNe (tCB oRepr (tCons (tCall (sp_slot_gain K) [] E0 (tCons (tVar 1) (tCons (tVar 4) tNil))) tNil)) (tCB oRepr (tCons (tOp oSub (tOp (rIxL K) (tVar 2) (tOp oSub (tVar 4) (tC (.int 1)))) (tOp (rIxL K) (tVar 2) (tVar 4))) tNil)))) (tRet (tC (.bl false))) tNext)))
  (tSeq (tAsg (tLc (iRng1 (tCons (tC (.int 3)) tNil)) (gName 3) tYes (tOp oSub (tOp oAdd (tOp (rIxL K) (tVar 2) (tCall (sp_l_spin K) [] E0 (tCons (tVar 0) (tCons (tC (.int 100)) tNil)))) (tCall (sp_l_spin K) [] E0 (tCons (tVar 0) (tCons (tC (.int 3)) tNil)))) (tC (.int 1))) [3]) (gName 5))
  (tSeq (tFor (iList K (tOp rCat (tVar 5) (tLst (tCons (tOp (rIxL K) (tLst (tCons (tC (.int 0)) (tCons (tOp (rIxL K) (tVar 2) (tC (.int 99))) (tCons (tOp oSub (tOp (rIxL K) (tVar 2) (tC (.int 99))) (tC (.int 1))) tNil)))) (tCall (sp_l_spin K) [] E0 (tCons (tVar 0) (tCons (tC (.int 3)) tNil)))) (tCons (tCall (sp_l_spin K) [] E0 (tCons (tVar 0) (tCons (tOp oAdd (tOp (rIxL K) (tVar 2) (tC (.int 0))) (tC (.int 2))) tNil))) (tCons (tOp oPowA (tC (.int 10)) (tC (.int 64))) tNil)))))) (gName 6)
  (tSeq (tAsg (tLc (iRng2 (tCons (tC (.int 1)) (tCons (tC (.int 101)) tNil))) (gName 4) (tTest (tOp oLe (tOp (rIxL K) (tVar 2) (tOp oSub (tVar 4) (tC (.int 1)))) (tVar 6))) (tVar 4) [4]) (gName 7))
  (tIfS (tAnd (tTest (tOp oGe (tVar 6) (tC (.int 0)))) (tTest (tOp rNe (tCB oRepr (tCons (tCall (sp_slots_for K) [] E0 (tCons (tVar 1) (tCons (tVar 6) tNil))) tNil)) (tCB oRepr (tCons (tIf (tTest (tOp (rNeD K) (tVar 7) (tLst tNil))) (tOp (rIxL K) (tVar 7) (tC (.int 0))) (tC .non)) tNil))))) (tRet (tC (.bl false))) tNext)))
  (tSeq (tFor (iRng1 (tCons (tC (.int 3)) tNil)) (gName 3)
  (tSeq (tAsg (tCall (sp_l_spin K) [] E0 (tCons (tVar 0) (tCons (tOp (rIxL K) (tLst (tCons (tC (.int 1)) (tCons (tC (.int 9)) (tCons (tOp oPowA (tC (.int 10)) (tC (.int 6))) (tCons (tOp oPowA (tC (.int 10)) (tC (.int 64))) tNil))))) (tCall (sp_l_spin K) [] E0 (tCons (tVar 0) (tCons (tC (.int 4)) tNil)))) tNil))) (gName 8))
  (tSeq (tAsg (tCall (sp_l_spin K) [] E0 (tCons (tVar 0) (tCons (tOp (rIxL K) (tLst (tCons (tC (.int 1)) (tCons (tC (.int 9)) (tCons (tOp oPowA (tC (.int 10)) (tC (.int 6))) (tCons (tOp oPowA (tC (.int 10)) (tC (.int 64))) tNil))))) (tCall (sp_l_spin K) [] E0 (tCons (tVar 0) (tCons (tC (.int 4)) tNil)))) tNil))) (gName 9))
  (tSeq (tIfS (tTest (tOp rEq (tVar 3) (tC (.int 2)))) (tSeq (tAsg (tCB oMin2 (tCons (tVar 9) (tCons (tOp oPowA (tC (.int 10)) (tC (.int 30))) tNil))) (gName 9))
  (tAsg (tOp oMulA (tVar 9) (tOp oSub (tOp (rIxL K) (tVar 2) (tOp oSub (tVar 4) (tC (.int 1)))) (tOp (rIxL K) (tVar 2) (tVar 4)))) (gName 8))) tNext)
  (tSeq (tAsg (tLc (iEnum K (tCons (tSl (rSlL K) (tVar 2) tNoPart (tPart (tC (.int 100)))) tNil)) (gTup K 2 (gCons (gName 11) (gCons (gName 6) gNil))) tYes (tOp oAdd (tOp oMulA (tVar 8) (tOp oAdd (tVar 11) (tC (.int 1)))) (tOp oMulA (tVar 9) (tVar 6))) [11, 6]) (gName 10))
  (tIfS (tTest (tOp rNe (tCB (oReprD K) (tCons (tCall (sp_cheapest_slots K) [] E0 (tCons (tVar 1) (tCons (tVar 8) (tCons (tVar 9) tNil)))) tNil)) (tCB (oReprD K) (tCons (tTup (tCons (tCB (rMin K) (tCons (tVar 10) tNil)) (tCons (tOp oAdd (tBM K "list" (rIndex K) (tVar 10) (tCons (tCB (rMin K) (tCons (tVar 10) tNil)) tNil)) (tC (.int 1))) tNil))) tNil)))) (tRet (tC (.bl false))) tNext))))))
  (tRet (tC (.bl true))))))))
/-- law: slots 0 l_script, 1 l_k, 2 l_reel, 3 l_n, 4 l_told -/
abbrev n_law_k08 : List Str := ["_law_script", "_law_k", "_law_reel", "_law_n", "_law_told"]
def t_law_k08 (K : PySem.W.Frag) : TS :=
  (tSeq (tFor (iRng1 (tCons (tCB oMax2 (tCons (tC (.int 1)) (tCons (tCB oMin2 (tCons (tC (.int 2)) (tCons (tCB (oLen K) (tCons (tVar 0) tNil)) tNil))) tNil))) tNil)) (gName 1)
  (tSeq (tAsg (tCall (sp_l_wound K) [] E0 (tCons (tVar 0) (tCons (tVar 1) tNil))) (gName 2))
  (tFor (iList K (tSl (rSlL K) (tLst (tCons (tOp oAdd (tC (.int 1)) (tCall (sp_l_spin K) [] E0 (tCons (tVar 2) (tCons (tOp (rIxL K) (tLst (tCons (tC (.int 12)) (tCons (tC (.int 200)) tNil))) (tCall (sp_l_spin K) [] E0 (tCons (tVar 2) (tCons (tC (.int 2)) tNil)))) tNil)))) (tCons (tOp (rIxT K) (tCall (sp_l_great K) [] E0 (tCons (tVar 2) tNil)) (tC (.int 0))) tNil))) tNoPart (tPart (tOp oSub (tC (.int 2)) (tCB oInt (tCons (tOp oGt (tVar 1) (tC (.int 0))) tNil)))))) (gName 3)
  (tIfS (tNot (tB (tCall (sp_l_right_k08 K) [] E0 (tCons (tVar 2) (tCons (tVar 3) tNil))))) (tRet (tC (.bl false))) tNext))))
  (tSeq (tAsg (tLst (tCons (tCall (sp_slot_gain K) [] E0 (tCons (tC (.int 10)) (tCons (tC (.int 2)) tNil))) (tCons (tCall (sp_slots_for K) [] E0 (tCons (tC (.int 10)) (tCons (tC (.int 15)) tNil))) (tCons (tCall (sp_slots_for K) [] E0 (tCons (tC (.int 10)) (tCons (tC (.int 8)) tNil))) (tCons (tCall (sp_slots_for K) [] E0 (tCons (tC (.int 10)) (tCons (tC (.int 9)) tNil))) (tCons (tCall (sp_slots_for K) [] E0 (tCons (tC (.int 1)) (tCons (tC (.int 0)) tNil))) tNil)))))) (gName 4))
  (tRet (tAndV (tOp (rEqD K) (tVar 4) (tLst (tCons (tC (.int 5)) (tCons (tC (.int 3)) (tCons (tC .non) (tCons (tC (.int 9)) (tCons (tC (.int 1)) tNil))))))) (tOp (rEqD K) (tLst (tCons (tCall (sp_cheapest_slots K) [] E0 (tCons (tC (.int 10)) (tCons (tC (.int 4)) (tCons (tC (.int 1)) tNil)))) (tCons (tCall (sp_cheapest_slots K) [] E0 (tCons (tC (.int 10)) (tCons (tC (.int 0)) (tCons (tC (.int 1)) tNil)))) tNil))) (tLst (tCons (tTup (tCons (tC (.int 27)) (tCons (tC (.int 3)) tNil))) (tCons (tTup (tCons (tC (.int 9)) (tCons (tC (.int 9)) tNil))) tNil))))))))

end Bs

namespace Bs
open PySem PySem.Spec L2 Bm
open PyProof.Rows hiding St
-- one step of a reading; side conditions; what a heap holds
local macro_rules | `(tactic| walk_at "sc") => `(tactic| (first
  | exact mulL ⟨by omega, by omega⟩ | exact mulR ⟨by omega, by omega⟩ | exact divS (by omega) (by omega) | exact (show (0 : Int) < _ by omega) | exact powS (b := 4) (by decide) (by decide) (by decide) (by decide) | assumption | omega))
local macro_rules | `(tactic| walk_at "ne") => `(tactic| (first
  | assumption | (apply Ne.symm; assumption) | exact ne_none (by assumption) (by walk_at "hp") | exact Ne.symm (ne_none (by assumption) (by walk_at "hp"))))
local macro_rules | `(tactic| walk_at "hp") => `(tactic| (first
  | assumption | exact upd_same | (refine (upd_ne ?k1).trans ?k2; (case k1 => walk_at "ne"); (case k2 => walk_at "hp")) | (refine Same.get (by assumption) ?_; walk_at "hp") | (refine But.get (by assumption) ?k1 ?k2; (case k1 => walk_at "hp"); (case k2 => walk_at "ne"))))
local macro_rules | `(tactic| walk_at "sq") => `(tactic| (first | assumption | exact SqL.of (by walk_at "hp") | exact SqT.of (by walk_at "hp")))
local macro_rules | `(tactic| walk_at "rd1") => `(tactic| (first
  | with_reducible refine r_seq ?_ | with_reducible refine r_asg ?_ | with_reducible refine r_asgG ?_ | with_reducible refine r_op ?_ | with_reducible refine r_var (by with_unfolding_all exact rfl) ?_ | with_reducible refine r_c ?_ | with_reducible refine r_I0 ?_ | with_reducible refine r_p30 ?_ | with_reducible refine r_p20 ?_ | with_reducible refine r_p27 ?_ | with_reducible refine r_p29 ?_ | with_reducible refine r_p38 ?_ | with_reducible refine r_p40 ?_ | with_reducible refine r_p42 ?_ | with_reducible refine r_p44 ?_ | with_reducible refine r_p49 ?_ | with_reducible refine r_p50 ?_ | with_reducible refine r_p60 ?_ | with_reducible refine r_p18 ?_ | with_reducible refine r_p12 ?_ | with_reducible refine r_p15 ?_ | with_reducible refine r_p9 ?_ | with_reducible refine r_p6 ?_ | with_reducible refine r_p64 ?_ | ((with_reducible refine r_I ?k1 ?k2); (case k1 => walk_at "sc")) | with_reducible refine r_U ?_ | with_reducible refine r_un ?_
  | with_reducible refine r_ret ?_ | with_reducible refine r_ifS ?_ | with_reducible refine r_test ?_ | with_reducible refine r_bl ?_ | with_reducible refine r_cb ?_ | with_reducible refine r_cons ?_ | with_reducible refine r_nil ?_ | with_reducible refine r_intI ?_ | with_reducible refine r_intB ?_ | refine r_max2' ?_ | refine r_min2' ?_ | with_reducible refine r_max3 ?_ | with_reducible refine r_min3 ?_
  | with_reducible refine r_call ?_ | with_reducible refine r_par ?_ | with_reducible refine r_and ?_ | with_reducible refine r_or ?_ | with_reducible refine r_not ?_ | with_reducible refine r_B ?_ | with_reducible refine r_andV ?_ | with_reducible refine r_orV ?_ | with_reducible refine r_notV ?_ | with_reducible refine r_ifE ?_ | with_reducible refine r_eqI ?_ | with_reducible refine r_neI ?_ | with_reducible refine r_eqB ?_ | with_reducible refine r_neB ?_ | with_reducible refine r_isN ?_ | with_reducible refine r_notN ?_
  | with_reducible refine r_chain ?_ | with_reducible refine r_chain3 ?_ | with_reducible refine r_drop ?_ | with_reducible refine r_next ?_ | with_reducible refine r_retN ?_ | with_reducible refine r_brk ?_ | with_reducible refine r_cont ?_ | with_reducible refine r_ex ?_
  | with_reducible refine r_tup ?_ | with_reducible refine r_lst ?_ | ((with_reducible refine r_new ?k1 ?k2); (case k1 => first | decide | exact Nat.le_of_ble_eq_true rfl)) | with_reducible refine r_sub ?_ | with_reducible refine r_gname ?_ | with_reducible refine r_gcons ?_ | with_reducible refine r_gnil ?_ | with_reducible refine r_slice ?_ | with_reducible refine r_noPart ?_ | with_reducible refine r_part ?_
  | with_reducible refine r_gtup (by with_unfolding_all walk_at "sq") (by with_unfolding_all exact rfl) ?_
  | with_reducible refine r_rng1 ?_ | with_reducible refine r_rng2 ?_ | ((with_reducible refine r_r1 ?k1 ?k2 ?k3); (case k1 => omega); (case k2 => omega)) | ((with_reducible refine r_r2 ?k1 ?k2); (case k1 => omega)) | with_reducible refine r_nonT ?_ | with_reducible refine r_nonI ?_ | with_reducible refine r_nonR ?_ | with_reducible refine r_notT ?_ | with_reducible refine r_notI ?_ | with_reducible refine r_notR ?_ | with_reducible refine r_for ?_ | with_reducible refine r_lc ?_ | with_reducible refine r_iL ?_ | with_reducible refine r_iT ?_ | with_reducible refine r_yesT ?_ | with_reducible refine r_same (by with_unfolding_all exact rfl) ?_ | with_reducible refine r_neS ?_ | with_reducible refine r_iteT ?_ | with_reducible refine r_iteF ?_ | with_reducible refine r_iteNT ?_ | with_reducible refine r_iteNF ?_
  | with_reducible refine r_aug (by with_unfolding_all exact rfl) ?_ | with_reducible refine r_ipI ?_ | with_reducible refine r_bm ?_ | with_reducible refine r_tyL (by with_unfolding_all walk_at "sq") ?_ | with_reducible refine r_enum ?_ | with_reducible refine r_en (by with_unfolding_all walk_at "sq") ?_ | with_reducible refine r_par3' ?_))
local macro_rules | `(tactic| walk_at "rd") => `(tactic| repeat walk_at "rd1")
section
variable (K : PySem.W.Frag) {vs : List V} {H : Hp} {Q : VK} {E : XK}
theorem pure_l_rounds_k08 (h : sp_l_rounds_k08 K vs H Q E) : t_l_rounds_k08 K { nx := fun _ H' => Q .non H', rt := Q } (start n_l_rounds_k08 vs) H := by
  obtain ⟨n, s, rfl, h1, h2, h3, h4, q⟩ := h
  show t_l_rounds_k08 K _ [some (.int n), some (.int s), none, none, none] H
  unfold t_l_rounds_k08
  walk_at "rd"
  intro p hp
  walk_at "rd"
  refine r_while (Dbl n s H) _ ⟨-1, 1, none, rfl, Same.new hp, by omega, by omega, by rw [rcI_m1 h3]; omega, .inl rfl, rfl⟩ ?_
  rintro m σ H1 ⟨lo, hi, v, rfl, s1, a1, a2, a3, a4, rfl⟩
  have a5 := rcI_lt h3 a1 a3
  walk_at "rd"
  refine ⟨s, hi, rfl, by omega, by omega, by omega, by omega, ?_⟩
  walk_at "rd"
  refine r_ite (fun c => ?_) fun c => ?_
  · refine r_N ?_
    walk_at "rd"
    refine ⟨(n - hi).toNat, by omega, hi, 2 * hi, v, rfl, s1, by omega, ?_, c, .inr rfl, rfl⟩
    · have : 1 ≤ hi := by
        rcases a4 with e | e
        · omega
        · have : lo ≠ 0 := by rintro rfl; omega
          omega
      omega
  · walk_at "rd"
    refine r_while (Hlv n s H) _ ⟨lo, hi, v, rfl, s1, a1, a2, a3, by omega, by omega, rfl⟩ ?_
    rintro m σ H2 ⟨lo, hi, v, rfl, s2, b1, b2, b3, b4, b5, rfl⟩
    walk_at "rd"
    refine r_ite (fun c => ?_) fun c => ?_
    · refine r_N ?_
      walk_at "rd"
      refine ⟨s, (lo + hi) / 2, rfl, by omega, by omega, by omega, by omega, ?_⟩
      walk_at "rd"
      refine r_ite (fun d => ?_) fun d => ?_
      · walk_at "rd"
        exact ⟨(hi - (lo + hi) / 2).toNat, by omega, _, _, _, rfl, s2, by omega, by omega, d, b4, b5, rfl⟩
      · walk_at "rd"
        exact ⟨((lo + hi) / 2 - lo).toNat, by omega, _, _, _, rfl, s2, by omega, by omega, b3, by omega, by omega, rfl⟩
    · walk_at "rd"
      rw [rhoI_of h1 h3 b1 b2 c b3 b4]
      exact q _ s2
theorem pure_l_least_k08 (h : sp_l_least_k08 K vs H Q E) : t_l_least_k08 K { nx := fun _ H' => Q .non H', rt := Q } (start n_l_least_k08 vs) H := by
  obtain ⟨n, s, rfl, h1, h2, h3, h4, q⟩ := h
  show t_l_least_k08 K _ [some (.int n), some (.int s), none] H
  unfold t_l_least_k08
  walk_at "rd"
  refine ⟨n, s, rfl, h1, h2, h3, h4, fun H' s' => ?_⟩
  have a := rhoI_nn h1 h3
  have b := rhoI_lt h1 h3
  walk_at "rd"
  refine r_I (mulW (a := 120) (b := 120) (by omega) (by omega) (by decide) (by decide) (by decide)) ?_
  walk_at "rd"
  refine ⟨s + 1, rhoI n s - 1, rfl, by omega, by omega, by omega, by omega, ?_⟩
  walk_at "rd"
  have e := ttI_eq (n := n) (s := s) (by omega)
  unfold ggI at e
  rw [← e]
  exact q _ s'
end
/-! ### the costs of a length -/
def costs (n : Int) (k : Nat) : List Int := (List.range k).map fun i : Nat => ttI n (1 + (i : Int))
theorem costs_len {n : Int} {k : Nat} : (costs n k).length = k := by unfold costs; simp
theorem costs_snoc {n : Int} {k : Nat} : costs n (k + 1) = costs n k ++ [ttI n (1 + (k : Int))] := by
  unfold costs
  rw [List.range_succ, List.map_append]
  rfl
theorem costs_get {n : Int} {k j : Nat} (h : j < k) : (costs n k)[j]? = some (ttI n (1 + (j : Int))) := by
  unfold costs
  rw [List.getElem?_map, List.getElem?_range h]
  rfl
theorem costs_at {n j s : Int} {k : Nat} (h0 : 1 ≤ s) (h1 : s ≤ k) (e : j = s - 1) : atI ((costs n k).map V.int) j = some (.int (ttI n s)) := by
  refine atI_i (by omega) ?_
  rw [List.getElem?_map, costs_get (by omega), show 1 + (j.toNat : Int) = s by omega]
  rfl
theorem costs_take {n : Int} {k m : Nat} (h : m ≤ k) : (costs n k).take m = costs n m := by
  unfold costs
  rw [← List.map_take, List.take_range, show min m k = m by omega]
theorem ttI_small {n s : Int} (hn : 1 ≤ n) (h : n ≤ 1000000000000000000000000000000) (hs : 1 ≤ s) : 0 ≤ ttI n s ∧ ttI n s ≤ 1000000000000000000000000000000 * 1000000000000000000000000000000 := by
  refine ⟨tt_nn hn (by omega), ?_⟩
  have a := rhoI_nn hn hs
  have b := rhoI_lt hn hs
  rw [ttI_eq (by omega)]
  unfold ggI
  have c : 0 ≤ rcI (s + 1) (rhoI n s - 1) := rc_nn _ _
  have d : rhoI n s * n ≤ 1000000000000000000000000000000 * 1000000000000000000000000000000 := Int.le_trans (Int.mul_le_mul_of_nonneg_right (show rhoI n s ≤ 1000000000000000000000000000000 by omega) (by omega)) (Int.mul_le_mul_of_nonneg_left h (by decide))
  omega
theorem log_lt {i : Int} (h : i.natAbs < 2 ^ 250) : i.natAbs.log2 < 1920 := Nat.lt_of_lt_of_le (PySem.Flt.log2_lt_of (k := 250) (by decide) h) (by decide)
end Bs

namespace Bs
open PySem PySem.Spec L2 Bm
open PyProof.Rows hiding St
/-! ### repr of a pair of ints -/
theorem r_repr2 {K : PySem.W.Frag} {H : Hp} {Q : VK} {p : Addr} {i j : Int} (h : SqT K H p [.int i, .int j]) (hi : i.natAbs.log2 < 1920) (hj : j.natAbs.log2 < 1920) (q : Q (.str (PyData.shown (.tuple [.int i, .int j]))) H) : oReprD K [.ref p] H Q := by
  refine r_reprD (d := .tuple [.int i, .int j]) (.tup h (.cons (.int _) (.cons (.int _) .nil))) ?_ rfl ?_ ?_ q
  · show (decide (i.natAbs.log2 < 1920) && (decide (j.natAbs.log2 < 1920) && true)) = true
    rw [decide_eq_true hi, decide_eq_true hj]
    rfl
  · show max 0 (max 0 0) + 1 ≤ 50
    decide
  · have a := int_text_len_1921 hi
    have b := int_text_len_1921 hj
    have t := tupleText_len_le [Str.ofString (toString i), Str.ofString (toString j)]
    refine Nat.le_trans (show (PyData.shown (.tuple [.int i, .int j])).length ≤ _ from t) ?_
    rw [sizeLine_eq]
    simp only [List.map_cons, List.map_nil, List.sum_cons, List.sum_nil, List.length_cons, List.length_nil]
    omega
theorem price_small {n a b s : Int} (hn : 1 ≤ n) (h : n ≤ 1000000000000000000000000000000) (hs : 1 ≤ s) (hs2 : s ≤ 100) (a0 : 0 ≤ a) (a1 : a < 2 ^ 320) (b0 : 0 ≤ b) (b1 : b < 2 ^ 220) : 0 ≤ price n a b s ∧ (price n a b s).natAbs.log2 < 1920 := by
  have T := ttI_small (s := s) hn h hs
  have p1 : s * a ≤ 100 * 2 ^ 320 := Int.le_trans (Int.mul_le_mul_of_nonneg_right hs2 a0) (Int.mul_le_mul_of_nonneg_left (Int.le_of_lt a1) (by decide))
  have p2 : ttI n s * b ≤ 2 ^ 200 * 2 ^ 220 := Int.le_trans (Int.mul_le_mul_of_nonneg_right (show ttI n s ≤ 2 ^ 200 by omega) b0) (Int.mul_le_mul_of_nonneg_left (Int.le_of_lt b1) (by decide +kernel))
  have q1 : 0 ≤ s * a := Int.mul_nonneg (by omega) a0
  have q2 : 0 ≤ ttI n s * b := Int.mul_nonneg T.1 b0
  have e : price n a b s = s * a + ttI n s * b := rfl
  have nn : 0 ≤ price n a b s := by rw [e]; exact Int.add_nonneg q1 q2
  refine ⟨nn, Nat.lt_of_lt_of_le (PySem.Flt.log2_lt_of (k := 430) (by decide) ?_) (by decide)⟩
  have le : price n a b s ≤ 100 * 2 ^ 320 + 2 ^ 200 * 2 ^ 220 := by rw [e]; exact Int.add_le_add p1 p2
  have lt : ((price n a b s).natAbs : Int) < ((2 ^ 430 : Nat) : Int) := by
    rw [Int.natAbs_of_nonneg nn]
    exact Int.lt_of_le_of_lt le (by decide +kernel)
  exact Int.ofNat_lt.mp lt
theorem r_min {K : PySem.W.Frag} {H : Hp} {Q : VK} {p : Addr} {ns : List Int} {m : Int} (h : SqL K H p (ns.map V.int)) (hm : m ∈ ns) (hl : ∀ x ∈ ns, m ≤ x) (q : Q (.int m) H) : rMin K [.ref p] H Q :=
  ⟨p, ns, rfl, h, List.length_pos_of_mem hm, fun m' h1 h2 => by
    have a := h2 m hm
    have b := hl m' h1
    rw [show m' = m by omega]
    exact q⟩
theorem r_index {K : PySem.W.Frag} {H : Hp} {Q : VK} {p : Addr} {ns : List Int} {m : Int} {j : Nat} (h : SqL K H p (ns.map V.int)) (hj : ns[j]? = some m) (hno : ∀ (i : Nat) (z : Int), i < j → ns[i]? = some z → z ≠ m) (q : Q (.int (j : Nat)) H) : rIndex K (.ref p) [.int m] H Q := by
  refine ⟨p, ns.map V.int, .int m, j, .int m, rfl, rfl, h, rfl, ?_, ?_, beq_self_eq_true m, fun i z hi hz => ?_, q⟩
  · rw [List.all_eq_true]
    intro x hx
    obtain ⟨z, _, rfl⟩ := List.mem_map.mp hx
    rfl
  · rw [List.getElem?_map, hj]
    rfl
  · rw [List.getElem?_map] at hz
    cases e : ns[i]? with
    | none => rw [e] at hz; cases hz
    | some w =>
      rw [e] at hz
      have hz := (Option.some.inj hz).symm
      subst hz
      exact beq_eq_false_iff_ne.mpr (hno i w hi e)
end Bs

namespace Bm
structure Fit (n z : Int) (i : Nat) (xs : List Int) : Prop where
  len : xs.length ≤ i
  ok : ∀ x ∈ xs, 1 ≤ x ∧ x ≤ i ∧ ttI n x ≤ z
  hd : ∀ s : Int, 1 ≤ s → s ≤ i → ttI n s ≤ z → (∀ t, 1 ≤ t → t < s → z < ttI n t) → ∃ tl, xs = s :: tl
theorem Fit.zero {n z : Int} : Fit n z 0 [] := ⟨Nat.le_refl _, fun x h => (List.not_mem_nil h).elim, fun s h1 h2 _ _ => by omega⟩
theorem Fit.yes {n z : Int} {i : Nat} {xs : List Int} (h : Fit n z i xs) (c : ttI n (1 + (i : Int)) ≤ z) : Fit n z (i + 1) (xs ++ [1 + (i : Int)]) := by
  refine ⟨by rw [List.length_append, List.length_cons, List.length_nil]; have := h.len; omega, fun x hx => ?_, fun s h1 h2 h3 h4 => ?_⟩
  · rcases List.mem_append.mp hx with m | m
    · have := h.ok x m
      exact ⟨this.1, by omega, this.2.2⟩
    · rw [List.mem_singleton.mp m]
      exact ⟨by omega, by omega, c⟩
  · by_cases e : s = 1 + (i : Int)
    · have nil : xs = [] := by
        cases xs with
        | nil => rfl
        | cons x xs =>
          have k := h.ok x List.mem_cons_self
          have := h4 x k.1 (by omega)
          omega
      rw [nil, e]
      exact ⟨[], rfl⟩
    · obtain ⟨tl, e2⟩ := h.hd s h1 (by omega) h3 h4
      rw [e2]
      exact ⟨_, rfl⟩
theorem Fit.no {n z : Int} {i : Nat} {xs : List Int} (h : Fit n z i xs) (c : ¬ ttI n (1 + (i : Int)) ≤ z) : Fit n z (i + 1) xs := by
  refine ⟨by have := h.len; omega, fun x hx => ?_, fun s h1 h2 h3 h4 => ?_⟩
  · have := h.ok x hx
    exact ⟨this.1, by omega, this.2.2⟩
  · by_cases e : s = 1 + (i : Int)
    · rw [e] at h3
      exact absurd h3 c
    · exact h.hd s h1 (by omega) h3 h4
/-- the prices of the slots from 1 on -/
theorem price_eq {n a b s : Int} : a * s + b * ttI n s = price n a b s := by
  unfold price
  rw [Int.mul_comm s a, Int.mul_comm (ttI n s) b]
end Bm
namespace Bs
open PySem PySem.Spec L2 Bm
open PyProof.Rows hiding St
-- one step of a reading; side conditions; what a heap holds
local macro_rules | `(tactic| walk_at "sc") => `(tactic| (first
  | exact mulL ⟨by omega, by omega⟩ | exact mulR ⟨by omega, by omega⟩ | exact divS (by omega) (by omega) | exact (show (0 : Int) < _ by omega) | exact powS (b := 4) (by decide) (by decide) (by decide) (by decide) | assumption | omega))
local macro_rules | `(tactic| walk_at "ne") => `(tactic| (first
  | assumption | (apply Ne.symm; assumption) | exact ne_none (by assumption) (by walk_at "hp") | exact Ne.symm (ne_none (by assumption) (by walk_at "hp"))))
local macro_rules | `(tactic| walk_at "hp") => `(tactic| (first
  | assumption | exact upd_same | (refine (upd_ne ?k1).trans ?k2; (case k1 => walk_at "ne"); (case k2 => walk_at "hp")) | (refine Same.get (by assumption) ?_; walk_at "hp") | (refine But.get (by assumption) ?k1 ?k2; (case k1 => walk_at "hp"); (case k2 => walk_at "ne"))))
local macro_rules | `(tactic| walk_at "sq") => `(tactic| (first | assumption | exact SqL.of (by walk_at "hp") | exact SqT.of (by walk_at "hp")))
local macro_rules | `(tactic| walk_at "rd1") => `(tactic| (first
  | with_reducible refine r_seq ?_ | with_reducible refine r_asg ?_ | with_reducible refine r_asgG ?_ | with_reducible refine r_op ?_ | with_reducible refine r_var (by with_unfolding_all exact rfl) ?_ | with_reducible refine r_c ?_ | with_reducible refine r_I0 ?_ | with_reducible refine r_p30 ?_ | with_reducible refine r_p20 ?_ | with_reducible refine r_p27 ?_ | with_reducible refine r_p29 ?_ | with_reducible refine r_p38 ?_ | with_reducible refine r_p40 ?_ | with_reducible refine r_p42 ?_ | with_reducible refine r_p44 ?_ | with_reducible refine r_p49 ?_ | with_reducible refine r_p50 ?_ | with_reducible refine r_p60 ?_ | with_reducible refine r_p18 ?_ | with_reducible refine r_p12 ?_ | with_reducible refine r_p15 ?_ | with_reducible refine r_p9 ?_ | with_reducible refine r_p6 ?_ | with_reducible refine r_p64 ?_ | ((with_reducible refine r_I ?k1 ?k2); (case k1 => walk_at "sc")) | with_reducible refine r_U ?_ | with_reducible refine r_un ?_
  | with_reducible refine r_ret ?_ | with_reducible refine r_ifS ?_ | with_reducible refine r_test ?_ | with_reducible refine r_bl ?_ | with_reducible refine r_cb ?_ | with_reducible refine r_cons ?_ | with_reducible refine r_nil ?_ | with_reducible refine r_intI ?_ | with_reducible refine r_intB ?_ | refine r_max2' ?_ | refine r_min2' ?_ | with_reducible refine r_max3 ?_ | with_reducible refine r_min3 ?_
  | with_reducible refine r_call ?_ | with_reducible refine r_par ?_ | with_reducible refine r_and ?_ | with_reducible refine r_or ?_ | with_reducible refine r_not ?_ | with_reducible refine r_B ?_ | with_reducible refine r_andV ?_ | with_reducible refine r_orV ?_ | with_reducible refine r_notV ?_ | with_reducible refine r_ifE ?_ | with_reducible refine r_eqI ?_ | with_reducible refine r_neI ?_ | with_reducible refine r_eqB ?_ | with_reducible refine r_neB ?_ | with_reducible refine r_isN ?_ | with_reducible refine r_notN ?_
  | with_reducible refine r_chain ?_ | with_reducible refine r_chain3 ?_ | with_reducible refine r_drop ?_ | with_reducible refine r_next ?_ | with_reducible refine r_retN ?_ | with_reducible refine r_brk ?_ | with_reducible refine r_cont ?_ | with_reducible refine r_ex ?_
  | with_reducible refine r_tup ?_ | with_reducible refine r_lst ?_ | ((with_reducible refine r_new ?k1 ?k2); (case k1 => first | decide | exact Nat.le_of_ble_eq_true rfl)) | with_reducible refine r_sub ?_ | with_reducible refine r_gname ?_ | with_reducible refine r_gcons ?_ | with_reducible refine r_gnil ?_ | with_reducible refine r_slice ?_ | with_reducible refine r_noPart ?_ | with_reducible refine r_part ?_
  | with_reducible refine r_gtup (by with_unfolding_all walk_at "sq") (by with_unfolding_all exact rfl) ?_
  | with_reducible refine r_rng1 ?_ | with_reducible refine r_rng2 ?_ | ((with_reducible refine r_r1 ?k1 ?k2 ?k3); (case k1 => omega); (case k2 => omega)) | ((with_reducible refine r_r2 ?k1 ?k2); (case k1 => omega)) | with_reducible refine r_nonT ?_ | with_reducible refine r_nonI ?_ | with_reducible refine r_nonR ?_ | with_reducible refine r_notT ?_ | with_reducible refine r_notI ?_ | with_reducible refine r_notR ?_ | with_reducible refine r_for ?_ | with_reducible refine r_lc ?_ | with_reducible refine r_iL ?_ | with_reducible refine r_iT ?_ | with_reducible refine r_yesT ?_ | with_reducible refine r_same (by with_unfolding_all exact rfl) ?_ | with_reducible refine r_neS ?_ | with_reducible refine r_iteT ?_ | with_reducible refine r_iteF ?_ | with_reducible refine r_iteNT ?_ | with_reducible refine r_iteNF ?_
  | with_reducible refine r_aug (by with_unfolding_all exact rfl) ?_ | with_reducible refine r_ipI ?_ | with_reducible refine r_bm ?_ | with_reducible refine r_tyL (by with_unfolding_all walk_at "sq") ?_ | with_reducible refine r_enum ?_ | with_reducible refine r_en (by with_unfolding_all walk_at "sq") ?_ | with_reducible refine r_par3' ?_))
local macro_rules | `(tactic| walk_at "rd") => `(tactic| repeat walk_at "rd1")
theorem cut_take8 {cs : List Int} {m : Int} (h0 : 0 ≤ m) (h1 : m ≤ cs.length) : cutV (cs.map V.int) none (some m) = (cs.take m.toNat).map V.int := by
  obtain ⟨k, rfl⟩ : ∃ k : Nat, m = k := ⟨m.toNat, by omega⟩
  unfold cutV
  rw [HT.sIx_none, HT.sIx_nat, List.length_map, Nat.sub_zero, List.drop_zero, ← List.map_take, Int.toNat_natCast, show min k cs.length = k by omega]
def prices (n a b : Int) (k : Nat) : List Int := (List.range k).map fun i : Nat => price n a b (1 + (i : Int))
theorem prices_len {n a b : Int} {k : Nat} : (prices n a b k).length = k := by unfold prices; simp
theorem prices_snoc {n a b : Int} {k : Nat} : prices n a b (k + 1) = prices n a b k ++ [price n a b (1 + (k : Int))] := by
  unfold prices
  rw [List.range_succ, List.map_append]
  rfl
theorem prices_get {n a b : Int} {k j : Nat} (h : j < k) : (prices n a b k)[j]? = some (price n a b (1 + (j : Int))) := by
  unfold prices
  rw [List.getElem?_map, List.getElem?_range h]
  rfl
theorem prices_mem {n a b x : Int} {k : Nat} (h : x ∈ prices n a b k) : ∃ j : Nat, j < k ∧ x = price n a b (1 + (j : Int)) := by
  unfold prices at h
  obtain ⟨j, hj, e⟩ := List.mem_map.mp h
  exact ⟨j, List.mem_range.mp hj, e.symm⟩
section
variable (K : PySem.W.Frag) {vs : List V} {H : Hp} {Q : VK} {E : XK}
theorem pure_l_right_k08 (h : sp_l_right_k08 K vs H Q E) : t_l_right_k08 K { nx := fun _ H' => Q .non H', rt := Q } (start n_l_right_k08 vs) H := by
  obtain ⟨a, n, f, rfl, h1, h2, g0, hf, q⟩ := h
  show t_l_right_k08 K _ [some (.ref a), some (.int n), none, none, none, none, none, none, none, none, none, none] H
  unfold t_l_right_k08
  walk_at "rd"
  intro C hC
  have nC := g0.ne hC
  refine lc_range (fun i H' => Same H H' ∧ H' C = some (.lst ((costs n i).map V.int))) ?_ ?_ ?_
  · exact ⟨Same.new hC, upd_same⟩
  · rintro i H1 hi ⟨s1, e1⟩
    walk_at "rd"
    refine ⟨n, 1 + (i : Int), rfl, h1, by omega, by omega, by omega, fun H2 s2 => ?_⟩
    walk_at "rd"
    refine ⟨_, s2 _ _ e1, sz_lt (by rw [List.length_map, costs_len]; omega), ?_⟩
    refine ⟨Same.mut (Same.trans s1 s2) hC, ?_⟩
    rw [upd_same, costs_snoc, List.map_append]
    rfl
  rintro H1 ⟨s1, eC⟩
  have eC : H1 C = some (.lst ((costs n 101).map V.int)) := eC
  have g1 := g0.at s1
  with_reducible refine r_jn (fun σ' H' => But a H1 H' ∧ (∃ f', Reel H' a f' ∧ f - 4 ≤ f') ∧ ∃ v3 s, σ' = [some (.ref a), some (.int n), some (.ref C), v3, some (.int s), none, none, none, none, none, none, none] ∧ 1 ≤ s ∧ s ≤ 100) (fun N nx => ?_) ?_
  · walk_at "rd"
    refine for_range (fun i σ H' => But a H1 H' ∧ (∃ f', Reel H' a f' ∧ f - i ≤ f') ∧ ∃ v3 v4, σ = [some (.ref a), some (.int n), some (.ref C), v3, v4, none, none, none, none, none, none, none] ∧ (1 ≤ i → ∃ s, v4 = some (.int s) ∧ 1 ≤ s ∧ s ≤ 100)) ?_ ?_ ?_
    · exact ⟨But.refl a H1, ⟨f, g1, by omega⟩, none, none, rfl, fun z => by omega⟩
    · rintro i σ H2 hi ⟨b2, ⟨f2, g2, hf2⟩, v3, v4, rfl, _⟩
      walk_at "rd"
      refine ⟨a, 100, f2, rfl, by omega, by omega, g2, by omega, fun r3 H3 a1 a2 b3 g3 => ?_⟩
      walk_at "rd"
      refine ⟨n, 1 + r3, rfl, h1, h2, by omega, by omega, fun H4 s4 => ?_⟩
      have T1 := ttI_small (s := 1 + r3) h1 h2 (by omega)
      have T2 := ttI_small (s := 1 + r3 + 1) h1 h2 (by omega)
      have e4 := s4 _ _ ((b2.trans b3).get eC nC)
      walk_at "rd"
      refine r_reprI (log_lt (by omega)) ?_
      walk_at "rd"
      refine r_ixL (SqL.of e4) (costs_at (s := 1 + r3) (by omega) (by omega) (by omega)) ?_
      walk_at "rd"
      refine r_ixL (SqL.of e4) (costs_at (s := 1 + r3 + 1) (by omega) (by omega) (by omega)) ?_
      walk_at "rd"
      refine r_reprI (log_lt (by omega)) ?_
      walk_at "rd"
      exact ⟨(b2.trans b3).trans (But.of s4), ⟨f2 - 1, g3.at s4, by omega⟩, _, _, rfl, fun _ => ⟨_, rfl, by omega, by omega⟩⟩
    rintro σ H2 ⟨b2, ⟨f2, g2, hf2⟩, v3, v4, rfl, hv4⟩
    obtain ⟨s, rfl, hs1, hs2⟩ := hv4 (by decide)
    exact nx _ _ ⟨b2, ⟨f2, g2, hf2⟩, v3, s, rfl, hs1, hs2⟩
  rintro σ H2 ⟨b2, ⟨f2, g2, hf2⟩, v3, s, rfl, hs1, hs2⟩
  walk_at "rd"
  intro D hD
  have hDH1 : H1 D = none := b2.freeR hD g2
  have nD := g2.ne hD
  refine lc_range (fun i H' => But a H1 H' ∧ (∃ f', Reel H' a f' ∧ f - 4 - 2 * i ≤ f') ∧ ∃ xs : List Int, H' D = some (.lst (xs.map V.int)) ∧ xs.length = i) ?_ ?_ ?_
  · exact ⟨b2.new hD, ⟨f2, g2.new hD, by omega⟩, [], upd_same, rfl⟩
  · rintro i H3 hi ⟨b3, ⟨f3, g3, hf3⟩, xs, e1, e2⟩
    have hi : i < 3 := hi
    walk_at "rd"
    refine ⟨a, 100, f3, rfl, by omega, by omega, g3, by omega, fun r4 H4 a1 a2 b4 g4 => ?_⟩
    refine r_ixL (SqL.of ((b3.trans b4).get eC nC)) (costs_at (s := 1 + r4) (by omega) (by omega) (by omega)) ?_
    walk_at "rd"
    refine ⟨a, 3, f3 - 1, rfl, by omega, by omega, g4, by omega, fun r5 H5 c1 c2 b5 g5 => ?_⟩
    walk_at "rd"
    refine ⟨_, (b4.trans b5).get e1 nD, sz_lt (by rw [List.length_map]; omega), ?_⟩
    refine ⟨((b3.trans b4).trans b5).mut hDH1, ⟨f3 - 1 - 1, g5.upd (Ne.symm nD), by omega⟩, xs ++ [ttI n (1 + r4) + r5 - 1], ?_, by simp [e2]⟩
    rw [upd_same, snoc_map]
  rintro H3 ⟨b3, ⟨f3, g3, hf3⟩, xs, eD, lD⟩
  have hf3 : f - 4 - 2 * 3 ≤ f3 := hf3
  have lD : xs.length = 3 := lD
  have eC3 := b3.get eC nC
  with_reducible refine r_jn (fun σ' H' => But a H1 H' ∧ (∃ f', Reel H' a f' ∧ f - 12 ≤ f') ∧ ∃ v6 v7, σ' = [some (.ref a), some (.int n), some (.ref C), v3, some (.int s), some (.ref D), v6, v7, none, none, none, none]) (fun N nx => ?_) ?_
  · walk_at "rd"
    refine r_ixL (SqL.of eC3) (costs_at (s := 100) (by omega) (by omega) (by omega)) ?_
    walk_at "rd"
    refine r_ixL (SqL.of eC3) (costs_at (s := 100) (by omega) (by omega) (by omega)) ?_
    walk_at "rd"
    intro p4 hp4
    have n4 := g3.ne hp4
    walk_at "rd"
    refine ⟨a, 3, f3, rfl, by omega, by omega, g3.new hp4, by omega, fun r5 H5 c1 c2 b5 g5 => ?_⟩
    obtain ⟨v5, m5, e5⟩ := atI_ints (xs := [0, ttI n 100, ttI n 100 - 1]) c1 c2
    refine r_ixL (xs := [.int 0, .int (ttI n 100), .int (ttI n 100 - 1)]) (SqL.of (b5.get upd_same n4)) e5 ?_
    have eC5 := b5.get ((upd_ne (o := .lst [.int 0, .int (ttI n 100), .int (ttI n 100 - 1)]) (ne_none hp4 eC3)).trans eC3) nC
    have T1 := ttI_small (s := 1) h1 h2 (by omega)
    walk_at "rd"
    refine r_ixL (SqL.of eC5) (costs_at (s := 1) (by omega) (by omega) (by omega)) ?_
    walk_at "rd"
    refine ⟨a, ttI n 1 + 2, f3 - 1, rfl, by omega, by omega, g5, by omega, fun r6 H6 d1 d2 b6 g6 => ?_⟩
    walk_at "rd"
    intro p7 hp7
    have eD6 := b6.get (b5.get ((upd_ne (o := .lst [.int 0, .int (ttI n 100), .int (ttI n 100 - 1)]) (ne_none hp4 eD)).trans eD) nD) nD
    refine r_cat ((upd_ne (ne_none hp7 eD6)).trans eD6) upd_same (by rw [List.length_map]; show xs.length + 3 ≤ 100000; omega) ?_
    intro p8 hp8
    have n8 := (g6.new hp7).ne hp8
    refine r_refL (SqL.of upd_same) ?_
    have ei : xs.map V.int ++ [.int v5, .int r6, .int 10000000000000000000000000000000000000000000000000000000000000000] = (xs ++ [v5, r6, 10000000000000000000000000000000000000000000000000000000000000000]).map V.int := by simp
    rw [ei]
    have b8 : But a H1 H6 := ((b3.new hp4).trans b5).trans b6
    generalize xs ++ [v5, r6, 10000000000000000000000000000000000000000000000000000000000000000] = items at ei ⊢
    refine for_list (K := K) (a := p8) (xs := items.map V.int) (fun i σ H' => But a H1 H' ∧ Reel H' a (f3 - 1 - 1) ∧ H' p8 = some (.lst (items.map V.int)) ∧ ∃ v6 v7, σ = [some (.ref a), some (.int n), some (.ref C), v3, some (.int s), some (.ref D), v6, v7, none, none, none, none]) ?_ ?_ ?_ ?_
    · exact ⟨(b8.new hp7).new hp8, (g6.new hp7).new hp8, upd_same, none, none, rfl⟩
    · rintro i σ H9 _ ⟨_, _, e, _⟩
      exact SqL.of e
    · rintro i x σ H9 hx ⟨b9, g9, e9, v6, v7, rfl⟩
      obtain ⟨z, _, rfl⟩ : ∃ z ∈ items, x = V.int z := by
        obtain ⟨z, hz, e⟩ := List.mem_map.mp (List.mem_of_getElem? hx)
        exact ⟨z, hz, e.symm⟩
      have eC9 := b9.get eC nC
      walk_at "rd"
      intro F hF
      refine lc_range (fun i H' => Same H9 H' ∧ ∃ ys : List Int, H' F = some (.lst (ys.map V.int)) ∧ Fit n z i ys) ?_ ?_ ?_
      · exact ⟨Same.new hF, [], upd_same, Fit.zero⟩
      · rintro j H10 hj ⟨s10, ys, k1, k2⟩
        have hj : j < 100 := hj
        walk_at "rd"
        refine r_ixL (SqL.of (s10 _ _ eC9)) (costs_at (s := 1 + (j : Int)) (by omega) (by omega) (by omega)) ?_
        walk_at "rd"
        refine r_ite (fun c => ?_) fun c => ?_
        · walk_at "rd"
          refine ⟨_, k1, sz_lt (by rw [List.length_map]; have := k2.len; omega), ?_⟩
          refine ⟨Same.mut s10 hF, ys ++ [1 + (j : Int)], ?_, k2.yes c⟩
          rw [upd_same, snoc_map]
        · exact ⟨s10, ys, k1, k2.no c⟩
      rintro H10 ⟨s10, ys, k1, k2⟩
      have k2 : Fit n z 100 ys := k2
      walk_at "rd"
      refine r_ite (fun c => ?_) fun c => ?_
      · walk_at "rd"
        refine ⟨n, z, rfl, h1, h2, c, fun t H11 t1 t2 t3 t4 s11 => ?_, fun no H11 s11 => ?_⟩
        · obtain ⟨tl, rfl⟩ := k2.hd t t1 (by omega) t3 t4
          have k11 := s11 _ _ k1
          walk_at "rd"
          refine r_reprI (log_lt (by omega)) ?_
          walk_at "rd"
          intro p12 hp12
          have k12 := (upd_ne (o := .lst []) (ne_none hp12 k11)).trans k11
          refine r_neL (ns := t :: tl) (ms := []) (SqL.of k12) (SqL.of upd_same) ?_
          walk_at "rd"
          refine r_ny (List.cons_ne_nil _ _) ?_
          walk_at "rd"
          refine r_ixL (SqL.of k12) (v := .int t) atI_0 ?_
          walk_at "rd"
          refine r_reprI (log_lt (by omega)) ?_
          walk_at "rd"
          have S := Same.newT (o := .lst []) (Same.trans s10 s11) hp12
          exact ⟨b9.trans (But.of S), g9.at S, S _ _ e9, _, _, rfl⟩
        · have nil : ys = [] := by
            cases ys with
            | nil => rfl
            | cons y ys =>
              have k := k2.ok y List.mem_cons_self
              have := no y k.1 (by omega)
              omega
          subst nil
          have k11 := s11 _ _ k1
          walk_at "rd"
          refine r_reprN ?_
          walk_at "rd"
          intro p12 hp12
          have k12 := (upd_ne (o := .lst []) (ne_none hp12 k11)).trans k11
          refine r_neL (ns := []) (ms := []) (SqL.of k12) (SqL.of upd_same) ?_
          walk_at "rd"
          refine r_nn rfl ?_
          walk_at "rd"
          refine r_reprN ?_
          walk_at "rd"
          have S := Same.newT (o := .lst []) (Same.trans s10 s11) hp12
          exact ⟨b9.trans (But.of S), g9.at S, S _ _ e9, _, _, rfl⟩
      · walk_at "rd"
        exact ⟨b9.trans (But.of s10), g9.at s10, s10 _ _ e9, _, _, rfl⟩
    rintro σ H9 ⟨b9, g9, _, v6, v7, rfl⟩
    exact nx _ _ ⟨b9, ⟨_, g9, by omega⟩, _, _, rfl⟩
  rintro σ H9 ⟨b9, ⟨f9, g9, hf9⟩, v6, v7, rfl⟩
  walk_at "rd"
  refine for_range (fun i σ H' => But a H1 H' ∧ (∃ f', Reel H' a f' ∧ f - 12 - 4 * i ≤ f') ∧ ∃ v3 v6 v7 v8 v9 v10 v11, σ = [some (.ref a), some (.int n), some (.ref C), v3, some (.int s), some (.ref D), v6, v7, v8, v9, v10, v11]) ?_ ?_ ?_
  · exact ⟨b9, ⟨f9, g9, by omega⟩, _, _, _, _, _, _, _, rfl⟩
  · rintro i σ H10 hi ⟨b10, ⟨f10, g10, hf10⟩, w3, w6, w7, w8, w9, w10, w11, rfl⟩
    have hi : i < 3 := hi
    walk_at "rd"
    intro q1 hq1
    have m1 := g10.ne hq1
    walk_at "rd"
    refine ⟨a, 4, f10, rfl, by omega, by omega, g10.new hq1, by omega, fun r11 H11 a1 a2 b11 g11 => ?_⟩
    obtain ⟨v11, mm, e11⟩ := atI_ints (xs := [1, 9, 1000000, 10000000000000000000000000000000000000000000000000000000000000000]) a1 a2
    refine r_ixL (xs := [.int 1, .int 9, .int 1000000, .int 10000000000000000000000000000000000000000000000000000000000000000]) (SqL.of (b11.get upd_same m1)) e11 ?_
    have u11 : 1 ≤ v11 ∧ v11 ≤ 10000000000000000000000000000000000000000000000000000000000000000 := by
      simp only [List.mem_cons, List.not_mem_nil, or_false] at mm
      omega
    walk_at "rd"
    refine ⟨a, v11, f10 - 1, rfl, by omega, by omega, g11, by omega, fun one H12 o1 o2 b12 g12 => ?_⟩
    walk_at "rd"
    intro q2 hq2
    have m2 := g12.ne hq2
    walk_at "rd"
    refine ⟨a, 4, f10 - 1 - 1, rfl, by omega, by omega, g12.new hq2, by omega, fun r13 H13 c1 c2 b13 g13 => ?_⟩
    obtain ⟨v13, mm2, e13⟩ := atI_ints (xs := [1, 9, 1000000, 10000000000000000000000000000000000000000000000000000000000000000]) c1 c2
    refine r_ixL (xs := [.int 1, .int 9, .int 1000000, .int 10000000000000000000000000000000000000000000000000000000000000000]) (SqL.of (b13.get upd_same m2)) e13 ?_
    have u13 : 1 ≤ v13 ∧ v13 ≤ 10000000000000000000000000000000000000000000000000000000000000000 := by
      simp only [List.mem_cons, List.not_mem_nil, or_false] at mm2
      omega
    walk_at "rd"
    refine ⟨a, v13, f10 - 1 - 1 - 1, rfl, by omega, by omega, g13, by omega, fun other H14 x1 x2 b14 g14 => ?_⟩
    have b15 : But a H1 H14 := ((b10.new hq1).trans b11).trans ((b12.new hq2).trans (b13.trans b14))
    with_reducible refine r_jn (fun σ' H' => H' = H14 ∧ ∃ one other : Int, 0 ≤ one ∧ one < 2 ^ 320 ∧ 0 ≤ other ∧ other < 2 ^ 220 ∧ σ' = [some (.ref a), some (.int n), some (.ref C), some (.int (0 + (i : Int))), some (.int s), some (.ref D), w6, w7, some (.int one), some (.int other), w10, w11]) (fun N nx => ?_) ?_
    · have eC14 := b15.get eC nC
      have T1 := ttI_small (s := s) h1 h2 (by omega)
      have T2 := ttI_small (s := s + 1) h1 h2 (by omega)
      have T3 := ttI_smono (n := n) (s := s) (q := s + 1) h1 (by omega) (by omega)
      walk_at "rd"
      refine r_ite (fun c => ?_) fun c => ?_
      · walk_at "rd"
        refine r_ixL (SqL.of eC14) (costs_at (s := s) (by omega) (by omega) (by omega)) ?_
        walk_at "rd"
        refine r_ixL (SqL.of eC14) (costs_at (s := s + 1) (by omega) (by omega) (by omega)) ?_
        walk_at "rd"
        refine r_I (mulW (a := 220) (b := 220) (by omega) (by omega) (by decide) (by decide) (by decide)) ?_
        refine nx _ _ ⟨rfl, _, _, ?_, ?_, ?_, ?_, rfl⟩
        · exact Int.mul_nonneg (by omega) (by omega)
        · have p1 := Int.mul_le_mul_of_nonneg_right (show min other 1000000000000000000000000000000 ≤ 2 ^ 100 by omega) (show 0 ≤ ttI n s - ttI n (s + 1) by omega)
          have p2 := Int.mul_le_mul_of_nonneg_left (show ttI n s - ttI n (s + 1) ≤ 2 ^ 200 by omega) (show (0 : Int) ≤ 2 ^ 100 by decide)
          exact Int.lt_of_le_of_lt (Int.le_trans p1 p2) (by decide +kernel)
        · omega
        · omega
      · walk_at "rd"
        refine nx _ _ ⟨rfl, one, other, o1, ?_, x1, by omega, rfl⟩
        exact Int.lt_of_lt_of_le (show one < 2 ^ 220 by omega) (by decide +kernel)
    rintro σ' H' ⟨rfl, one, other, o1, o2, x1, x2, rfl⟩
    have eC14 := b15.get eC nC
    have on : one.natAbs < 2 ^ 1000 := by
      have : one.natAbs < 2 ^ 320 := by
        have e : (one.natAbs : Int) = one := Int.natAbs_of_nonneg o1
        have z : ((one.natAbs : Nat) : Int) < ((2 ^ 320 : Nat) : Int) := by
          rw [e]
          exact Int.lt_of_lt_of_le o2 (by decide +kernel)
        exact Int.ofNat_lt.mp z
      exact Nat.lt_of_lt_of_le this (Nat.pow_le_pow_right (by decide) (by decide))
    have ot : other.natAbs < 2 ^ 1000 := Nat.lt_of_lt_of_le (show other.natAbs < 2 ^ 220 by omega) (Nat.pow_le_pow_right (by decide) (by decide))
    walk_at "rd"
    refine r_slL (SqL.of eC14) ?_
    intro L hL
    rw [cut_take8 (by decide) (by rw [costs_len]; decide), show (100 : Int).toNat = 100 from rfl, costs_take (by decide)]
    have eL : (upd H' L (.lst ((costs n 100).map V.int))) L = some (.lst ((costs n 100).map V.int)) := upd_same
    have sL : Same H' (upd H' L (.lst ((costs n 100).map V.int))) := Same.new hL
    generalize upd H' L (.lst ((costs n 100).map V.int)) = H0 at eL sL ⊢
    walk_at "rd"
    intro P hP
    refine lc_it (walk_enum (xs := (costs n 100).map V.int)) (fun i H'' => Same H0 H'' ∧ H'' P = some (.lst ((prices n one other i).map V.int))) ?_ ?_ ?_ ?_
    · exact ⟨Same.new hP, upd_same⟩
    · rintro i H2 _ ⟨s2, _⟩
      exact SqL.of (s2 _ _ eL)
    · rintro j x H2 H3 hj ⟨s2, e2⟩ ⟨T, y1, y2, rfl, hT, rfl, z1, z2⟩
      rw [List.length_map, costs_len] at hj
      cases z1
      have z2 : ((costs n 100).map V.int)[j]? = some y2 := z2
      rw [List.getElem?_map, costs_get hj] at z2
      have z3 := (Option.some.inj z2).symm
      subst z3
      have TT := ttI_small (s := 1 + (j : Int)) h1 h2 (by omega)
      have eP2 := (upd_ne (o := .tup [.int (j : Int), .int (ttI n (1 + (j : Int)))]) (ne_none hT e2)).trans e2
      have s3 := Same.newT (o := .tup [.int (j : Int), .int (ttI n (1 + (j : Int)))]) s2 hT
      refine r_gtup (SqT.of upd_same) rfl ?_
      generalize upd H2 T (.tup [.int (j : Int), .int (ttI n (1 + (j : Int)))]) = H3 at eP2 s3 ⊢
      walk_at "rd"
      refine r_I (mulW (a := 220) (b := 220) (by omega) (by omega) (by decide) (by decide) (by decide)) ?_
      walk_at "rd"
      rw [show (j : Int) + 1 = 1 + (j : Int) by omega, price_eq]
      refine ⟨_, eP2, sz_lt (by rw [List.length_map, prices_len]; omega), ?_⟩
      refine ⟨Same.mut s3 hP, ?_⟩
      rw [upd_same, prices_snoc, List.map_append]
      rfl
    rintro H2 ⟨s2, eP⟩
    rw [List.length_map, costs_len] at eP
    have S2 := Same.trans sL s2
    walk_at "rd"
    refine ⟨n, one, other, rfl, h1, h2, o1, on, x1, ot, fun t p20 H20 t1 t2 t3 t4 s20 hp20 e20 => ?_⟩
    have eP20 := s20 _ _ eP
    have PS := price_small (s := t) h1 h2 t1 t2 o1 o2 x1 x2
    have tj : (prices n one other 100)[(t - 1).toNat]? = some (price n one other t) := by rw [prices_get (by omega), show 1 + ((t - 1).toNat : Int) = t by omega]
    have tm := List.mem_of_getElem? tj
    have tl : ∀ x ∈ prices n one other 100, price n one other t ≤ x := by
      intro x hx
      obtain ⟨j, hj, rfl⟩ := prices_mem hx
      exact t3 _ (by omega) (by omega)
    walk_at "rd"
    refine r_repr2 (SqT.of e20) PS.2 (log_lt (by omega)) ?_
    walk_at "rd"
    refine r_min (SqL.of eP20) tm tl ?_
    walk_at "rd"
    refine r_min (SqL.of eP20) tm tl ?_
    walk_at "rd"
    refine r_index (j := (t - 1).toNat) (SqL.of eP20) tj (fun i' z hi' hz => ?_) ?_
    · rw [prices_get (by omega)] at hz
      have hz := Option.some.inj hz
      have := t4 (1 + (i' : Int)) (by omega) (by omega)
      omega
    walk_at "rd"
    rw [show ((t - 1).toNat : Int) + 1 = t by omega]
    intro p21 hp21
    walk_at "rd"
    refine r_repr2 (SqT.of upd_same) PS.2 (log_lt (by omega)) ?_
    walk_at "rd"
    have S := Same.newT (o := .tup [.int (price n one other t), .int t]) (Same.trans S2 s20) hp21
    exact ⟨b15.trans (But.of S), ⟨_, g14.at S, by omega⟩, _, _, _, _, _, _, _, rfl⟩
  · rintro σ H10 ⟨b10, ⟨f10, g10, hf10⟩, w3, w6, w7, w8, w9, w10, w11, rfl⟩
    have hf10 : f - 12 - 4 * 3 ≤ f10 := hf10
    walk_at "rd"
    exact q f10 _ (by omega) ((But.of s1).trans b10) g10
end
end Bs

namespace Bm
theorem tt_val {n : Int} {s : Nat} {r v : Int} (hn : 1 ≤ n) (hs : 1 ≤ s) (hr : 1 ≤ r) (h1 : n ≤ rcC s r) (h2 : rcC s (r - 1) < n) (e : r * n - rcC (s + 1) (r - 1) = v) : tt n s = v := by
  rw [rcC_eq (by omega)] at h1 h2 e
  have q : rho n s = r := rho_eq hn hs ⟨by omega, h1, h2⟩
  unfold tt gg
  rw [q, e]
theorem t10_1 : ttI 10 1 = 45 := tt_val (r := 9) (by decide) (by decide) (by decide) (by decide +kernel) (by decide +kernel) (by decide +kernel)
theorem t10_2 : ttI 10 2 = 20 := tt_val (r := 3) (by decide) (by decide) (by decide) (by decide +kernel) (by decide +kernel) (by decide +kernel)
theorem t10_3 : ttI 10 3 = 15 := tt_val (r := 2) (by decide) (by decide) (by decide) (by decide +kernel) (by decide +kernel) (by decide +kernel)
theorem t10_4 : ttI 10 4 = 14 := tt_val (r := 2) (by decide) (by decide) (by decide) (by decide +kernel) (by decide +kernel) (by decide +kernel)
theorem t10_8 : ttI 10 8 = 10 := tt_val (r := 2) (by decide) (by decide) (by decide) (by decide +kernel) (by decide +kernel) (by decide +kernel)
theorem t10_9 : ttI 10 9 = 9 := tt_val (r := 1) (by decide) (by decide) (by decide) (by decide +kernel) (by decide +kernel) (by decide +kernel)
theorem t_ge {n s : Int} (hn : 1 ≤ n) (hs : 1 ≤ s) : n - 1 ≤ ttI n s := by
  have := gg_le (n := n) (s := s.toNat) (k := 1) hn (by omega) (by omega)
  unfold gg at this
  rw [show (1 : Int) - 1 = ((0 : Nat) : Int) by omega, rc_nat, rch_s0] at this
  unfold ttI
  omega
end Bm
namespace Bs
open PySem PySem.Spec L2 Bm
open PyProof.Rows hiding St
-- one step of a reading; side conditions; what a heap holds
local macro_rules | `(tactic| walk_at "sc") => `(tactic| (first
  | exact mulL ⟨by omega, by omega⟩ | exact mulR ⟨by omega, by omega⟩ | exact divS (by omega) (by omega) | exact (show (0 : Int) < _ by omega) | exact powS (b := 4) (by decide) (by decide) (by decide) (by decide) | assumption | omega))
local macro_rules | `(tactic| walk_at "ne") => `(tactic| (first
  | assumption | (apply Ne.symm; assumption) | exact ne_none (by assumption) (by walk_at "hp") | exact Ne.symm (ne_none (by assumption) (by walk_at "hp"))))
local macro_rules | `(tactic| walk_at "hp") => `(tactic| (first
  | assumption | exact upd_same | (refine (upd_ne ?k1).trans ?k2; (case k1 => walk_at "ne"); (case k2 => walk_at "hp")) | (refine Same.get (by assumption) ?_; walk_at "hp") | (refine But.get (by assumption) ?k1 ?k2; (case k1 => walk_at "hp"); (case k2 => walk_at "ne"))))
local macro_rules | `(tactic| walk_at "sq") => `(tactic| (first | assumption | exact SqL.of (by walk_at "hp") | exact SqT.of (by walk_at "hp")))
local macro_rules | `(tactic| walk_at "rd1") => `(tactic| (first
  | with_reducible refine r_seq ?_ | with_reducible refine r_asg ?_ | with_reducible refine r_asgG ?_ | with_reducible refine r_op ?_ | with_reducible refine r_var (by with_unfolding_all exact rfl) ?_ | with_reducible refine r_c ?_ | with_reducible refine r_I0 ?_ | with_reducible refine r_p30 ?_ | with_reducible refine r_p20 ?_ | with_reducible refine r_p27 ?_ | with_reducible refine r_p29 ?_ | with_reducible refine r_p38 ?_ | with_reducible refine r_p40 ?_ | with_reducible refine r_p42 ?_ | with_reducible refine r_p44 ?_ | with_reducible refine r_p49 ?_ | with_reducible refine r_p50 ?_ | with_reducible refine r_p60 ?_ | with_reducible refine r_p18 ?_ | with_reducible refine r_p12 ?_ | with_reducible refine r_p15 ?_ | with_reducible refine r_p9 ?_ | with_reducible refine r_p6 ?_ | with_reducible refine r_p64 ?_ | ((with_reducible refine r_I ?k1 ?k2); (case k1 => walk_at "sc")) | with_reducible refine r_U ?_ | with_reducible refine r_un ?_
  | with_reducible refine r_ret ?_ | with_reducible refine r_ifS ?_ | with_reducible refine r_test ?_ | with_reducible refine r_bl ?_ | with_reducible refine r_cb ?_ | with_reducible refine r_cons ?_ | with_reducible refine r_nil ?_ | with_reducible refine r_intI ?_ | with_reducible refine r_intB ?_ | refine r_max2' ?_ | refine r_min2' ?_ | with_reducible refine r_max3 ?_ | with_reducible refine r_min3 ?_
  | with_reducible refine r_call ?_ | with_reducible refine r_par ?_ | with_reducible refine r_and ?_ | with_reducible refine r_or ?_ | with_reducible refine r_not ?_ | with_reducible refine r_B ?_ | with_reducible refine r_andV ?_ | with_reducible refine r_orV ?_ | with_reducible refine r_notV ?_ | with_reducible refine r_ifE ?_ | with_reducible refine r_eqI ?_ | with_reducible refine r_neI ?_ | with_reducible refine r_eqB ?_ | with_reducible refine r_neB ?_ | with_reducible refine r_isN ?_ | with_reducible refine r_notN ?_
  | with_reducible refine r_chain ?_ | with_reducible refine r_chain3 ?_ | with_reducible refine r_drop ?_ | with_reducible refine r_next ?_ | with_reducible refine r_retN ?_ | with_reducible refine r_brk ?_ | with_reducible refine r_cont ?_ | with_reducible refine r_ex ?_
  | with_reducible refine r_tup ?_ | with_reducible refine r_lst ?_ | ((with_reducible refine r_new ?k1 ?k2); (case k1 => first | decide | exact Nat.le_of_ble_eq_true rfl)) | with_reducible refine r_sub ?_ | with_reducible refine r_gname ?_ | with_reducible refine r_gcons ?_ | with_reducible refine r_gnil ?_ | with_reducible refine r_slice ?_ | with_reducible refine r_noPart ?_ | with_reducible refine r_part ?_
  | with_reducible refine r_gtup (by with_unfolding_all walk_at "sq") (by with_unfolding_all exact rfl) ?_
  | with_reducible refine r_rng1 ?_ | with_reducible refine r_rng2 ?_ | ((with_reducible refine r_r1 ?k1 ?k2 ?k3); (case k1 => omega); (case k2 => omega)) | ((with_reducible refine r_r2 ?k1 ?k2); (case k1 => omega)) | with_reducible refine r_nonT ?_ | with_reducible refine r_nonI ?_ | with_reducible refine r_nonR ?_ | with_reducible refine r_notT ?_ | with_reducible refine r_notI ?_ | with_reducible refine r_notR ?_ | with_reducible refine r_for ?_ | with_reducible refine r_lc ?_ | with_reducible refine r_iL ?_ | with_reducible refine r_iT ?_ | with_reducible refine r_yesT ?_ | with_reducible refine r_same (by with_unfolding_all exact rfl) ?_ | with_reducible refine r_neS ?_ | with_reducible refine r_iteT ?_ | with_reducible refine r_iteF ?_ | with_reducible refine r_iteNT ?_ | with_reducible refine r_iteNF ?_
  | with_reducible refine r_aug (by with_unfolding_all exact rfl) ?_ | with_reducible refine r_ipI ?_ | with_reducible refine r_bm ?_ | with_reducible refine r_tyL (by with_unfolding_all walk_at "sq") ?_ | with_reducible refine r_enum ?_ | with_reducible refine r_en (by with_unfolding_all walk_at "sq") ?_ | with_reducible refine r_par3' ?_))
local macro_rules | `(tactic| walk_at "rd") => `(tactic| repeat walk_at "rd1")
section
variable (K : PySem.W.Frag) {vs : List V} {H : Hp} {Q : VK} {E : XK}
theorem pure_law_k08 (h : sp_law_k08 K vs H Q E) : t_law_k08 K { nx := fun _ H' => Q .non H', rt := Q } (start n_law_k08 vs) H := by
  obtain ⟨a, ns, rfl, hS, hl, q⟩ := h
  show t_law_k08 K _ [some (.ref a), none, none, none, none] H
  unfold t_law_k08
  walk_at "rd"
  refine r_lenL hS ?_
  walk_at "rd"
  refine for_range (fun i σ H' => SqL K H' a (ns.map V.int) ∧ ∃ v1 v2 v3 v4, σ = [some (.ref a), v1, v2, v3, v4]) ?_ ?_ ?_
  · exact ⟨hS, none, none, none, none, rfl⟩
  · rintro i σ H1 hi ⟨S1, v1, v2, v3, v4, rfl⟩
    walk_at "rd"
    refine ⟨a, ns, 0 + (i : Int), rfl, S1, by omega, by omega, fun p H2 s2 hp g2 => ?_⟩
    walk_at "rd"
    intro q1 hq1
    have m1 := g2.ne hq1
    walk_at "rd"
    refine ⟨p, 2, 100000, rfl, by omega, by omega, g2.new hq1, by omega, fun r3 H3 a1 a2 b3 g3 => ?_⟩
    obtain ⟨v, mm, e3⟩ := atI_ints (xs := [12, 200]) a1 a2
    refine r_ixL (xs := [.int 12, .int 200]) (SqL.of (b3.get upd_same m1)) e3 ?_
    have u3 : 1 ≤ v ∧ v ≤ 200 := by simp at mm; omega
    walk_at "rd"
    refine ⟨p, v, 100000 - 1, rfl, by omega, by omega, g3, by omega, fun r4 H4 c1 c2 b4 g4 => ?_⟩
    walk_at "rd"
    refine ⟨p, 100000 - 1 - 1, rfl, g4, by omega, fun n s p6 H6 d1 d2 d3 d4 b6 g6 hp6 e6 => ?_⟩
    walk_at "rd"
    refine r_ixT (xs := [.int n, .int s]) (i := 0) (v := .int n) (SqT.of e6) rfl ?_
    walk_at "rd"
    intro q5 hq5
    walk_at "rd"
    have m5 := g6.ne hq5
    refine r_slL (xs := [.int (1 + r4), .int n]) (SqL.of upd_same) ?_
    intro q6 hq6
    have m6 := (g6.new hq5).ne hq6
    refine r_refL (SqL.of upd_same) ?_
    have B6 : But p H1 H6 := (But.of s2).trans (((But.refl p H2).new hq1).trans (b3.trans (b4.trans b6)))
    generalize hu : (2 - (if decide (0 < 0 + (i : Int)) = true then 1 else 0) : Int) = u
    have cl := cutV_length [V.int (1 + r4), .int n] none (some u)
    have ci : ∀ x ∈ cutV [V.int (1 + r4), .int n] none (some u), ∃ z, x = V.int z ∧ 1 ≤ z ∧ z ≤ 1000000000000000000000000000000 := by
      intro x hx
      obtain ⟨z, hz, e⟩ := cut_int (ns := [1 + r4, n]) hx
      refine ⟨z, e, ?_⟩
      simp only [List.mem_cons, List.not_mem_nil, or_false] at hz
      omega
    refine for_list (K := K) (a := q6) (xs := cutV [.int (1 + r4), .int n] none (some u)) (fun i' σ H' => But p H1 H' ∧ (∃ f, Reel H' p f ∧ 1000 - 40 * (i' : Int) ≤ f) ∧ H' q6 = some (.lst (cutV [.int (1 + r4), .int n] none (some u))) ∧
      ∃ v3 v4, σ = [some (.ref a), some (.int (0 + (i : Int))), some (.ref p), v3, v4]) ?_ ?_ ?_ ?_
    · exact ⟨(B6.new hq5).new hq6, ⟨_, (g6.new hq5).new hq6, by omega⟩, upd_same, _, _, rfl⟩
    · rintro i' σ H7 _ ⟨_, _, e, _⟩
      exact SqL.of e
    · rintro i' x σ H7 hx ⟨b7, ⟨f, g7, f1⟩, e7, v3, v4, rfl⟩
      have hi' : i' < (cutV [V.int (1 + r4), .int n] none (some u)).length := (List.getElem?_eq_some_iff.mp hx).1
      have hi2 : i' < 2 := Nat.lt_of_lt_of_le hi' cl
      obtain ⟨z, rfl, z1, z2⟩ := ci x (List.mem_of_getElem? hx)
      walk_at "rd"
      refine ⟨p, z, f, rfl, z1, z2, g7, by omega, fun f' H8 hf' b8 g8 => ?_⟩
      walk_at "rd"
      exact ⟨b7.trans b8, ⟨f', g8, by omega⟩, b8.get e7 m6, _, _, rfl⟩
    · rintro σ H7 ⟨b7, _, _, v3, v4, rfl⟩
      exact ⟨SqL.keep S1 hp b7, _, _, _, _, rfl⟩
  rintro σ H1 ⟨_, v1, v2, v3, v4, rfl⟩
  have ge : ∀ s, 1 ≤ s → 9 ≤ ttI 10 s := fun s hs => by have := t_ge (n := 10) (s := s) (by omega) hs; omega
  have w1 := t10_1
  have w2 := t10_2
  have w3 := t10_3
  have w4 := t10_4
  have w8 := t10_8
  have w9 := t10_9
  walk_at "rd"
  refine ⟨10, 2, rfl, by omega, by omega, by omega, by omega, fun H2 s2 => ?_⟩
  rw [show ttI 10 2 - ttI 10 (2 + 1) = 5 by rw [show (2 : Int) + 1 = 3 by omega]; omega]
  walk_at "rd"
  refine ⟨10, 15, rfl, by omega, by omega, by omega, fun s H3 x1 x2 x3 x4 s3 => ?_, fun no => absurd (no 3 (by omega) (by omega)) (by omega)⟩
  have hs : s = 3 := by
    apply Decidable.byContradiction
    intro w
    by_cases c : s < 3
    · have := ttI_smono (n := 10) (s := s) (q := 2) (by omega) x1 (by omega)
      omega
    · have := x4 3 (by omega) (by omega)
      omega
  subst hs
  walk_at "rd"
  refine ⟨10, 8, rfl, by omega, by omega, by omega, fun s H4 y1 y2 y3 y4 s4 => absurd (ge s y1) (by omega), fun _ H4 s4 => ?_⟩
  walk_at "rd"
  refine ⟨10, 9, rfl, by omega, by omega, by omega, fun s H5 y1 y2 y3 y4 s5 => ?_, fun no => absurd (no 9 (by omega) (by omega)) (by omega)⟩
  have hs : s = 9 := by
    apply Decidable.byContradiction
    intro w
    by_cases c : s < 9
    · have := ttI_smono (n := 10) (s := s) (q := 8) (by omega) y1 (by omega)
      omega
    · have := y4 9 (by omega) (by omega)
      omega
  subst hs
  walk_at "rd"
  refine ⟨1, 0, rfl, by omega, by omega, by omega, fun s H6 z1 z2 z3 z4 s6 => ?_, fun no => absurd (no 1 (by omega) (by omega)) (by rw [ttI_1 (by omega)]; omega)⟩
  have hs : s = 1 := by
    apply Decidable.byContradiction
    intro w
    have := z4 1 (by omega) (by omega)
    rw [ttI_1 (by omega)] at this
    omega
  subst hs
  walk_at "rd"
  intro p7 hp7
  walk_at "rd"
  intro p8 hp8
  refine ⟨.list [.int 5, .int 3, .none, .int 9, .int 1], .list [.int 5, .int 3, .none, .int 9, .int 1], .lst (SqL.of ((upd_ne (ne_none hp8 upd_same)).trans upd_same)) (.cons (.int _) (.cons (.int _) (.cons .non (.cons (.int _) (.cons (.int _) .nil))))),
    .lst (SqL.of upd_same) (.cons (.int _) (.cons (.int _) (.cons .non (.cons (.int _) (.cons (.int _) .nil))))), rfl, rfl, ?_⟩
  rw [show PyData.eqv (.list [.int 5, .int 3, .none, .int 9, .int 1]) (.list [.int 5, .int 3, .none, .int 9, .int 1]) = true from rfl]
  walk_at "rd"
  refine ⟨10, 4, 1, rfl, by omega, by omega, by omega, by decide, by omega, by decide, fun s p9 H9 y1 y2 y3 y4 s9 hp9 e9 => ?_⟩
  have hs : s = 3 := by
    have k := y3 3 (by omega) (by omega)
    unfold price at k
    have g := ge s y1
    have : s ≤ 4 := by omega
    rcases (show s = 1 ∨ s = 2 ∨ s = 3 ∨ s = 4 by omega) with e | e | e | e
    · rw [e] at k; omega
    · rw [e] at k; omega
    · exact e
    · rw [e] at k; omega
  subst hs
  have e9 : H9 p9 = some (.tup [.int 27, .int 3]) := by
    rw [e9]
    unfold price
    rw [w3]
    rfl
  walk_at "rd"
  refine ⟨10, 0, 1, rfl, by omega, by omega, by omega, by decide, by omega, by decide, fun s p10 H10 x1 x2 x3 x4 s10 hp10 e10 => ?_⟩
  have hs : s = 9 := by
    apply Decidable.byContradiction
    intro w
    have g := ge s x1
    by_cases c : s < 9
    · have k := x3 9 (by omega) (by omega)
      unfold price at k
      have := ttI_smono (n := 10) (s := s) (q := 8) (by omega) x1 (by omega)
      omega
    · have k := x4 9 (by omega) (by omega)
      unfold price at k
      omega
  subst hs
  have e10 : H10 p10 = some (.tup [.int 9, .int 9]) := by
    rw [e10]
    unfold price
    rw [w9]
    rfl
  have e9' := s10 _ _ e9
  walk_at "rd"
  intro p11 hp11
  have k11_9 := (upd_ne (o := .lst [.ref p9, .ref p10]) (ne_none hp11 e9')).trans e9'
  have k11_10 := (upd_ne (o := .lst [.ref p9, .ref p10]) (ne_none hp11 e10)).trans e10
  have k11_11 : upd H10 p11 (.lst [.ref p9, .ref p10]) p11 = some (.lst [.ref p9, .ref p10]) := upd_same
  generalize upd H10 p11 (.lst [.ref p9, .ref p10]) = H11 at k11_9 k11_10 k11_11 ⊢
  walk_at "rd"
  intro p12 hp12
  have k12_9 := (upd_ne (o := .tup [.int 27, .int 3]) (ne_none hp12 k11_9)).trans k11_9
  have k12_10 := (upd_ne (o := .tup [.int 27, .int 3]) (ne_none hp12 k11_10)).trans k11_10
  have k12_11 := (upd_ne (o := .tup [.int 27, .int 3]) (ne_none hp12 k11_11)).trans k11_11
  have k12_12 : upd H11 p12 (.tup [.int 27, .int 3]) p12 = some (.tup [.int 27, .int 3]) := upd_same
  generalize upd H11 p12 (.tup [.int 27, .int 3]) = H12 at k12_9 k12_10 k12_11 k12_12 ⊢
  walk_at "rd"
  intro p13 hp13
  have k13_9 := (upd_ne (o := .tup [.int 9, .int 9]) (ne_none hp13 k12_9)).trans k12_9
  have k13_10 := (upd_ne (o := .tup [.int 9, .int 9]) (ne_none hp13 k12_10)).trans k12_10
  have k13_11 := (upd_ne (o := .tup [.int 9, .int 9]) (ne_none hp13 k12_11)).trans k12_11
  have k13_12 := (upd_ne (o := .tup [.int 9, .int 9]) (ne_none hp13 k12_12)).trans k12_12
  have k13_13 : upd H12 p13 (.tup [.int 9, .int 9]) p13 = some (.tup [.int 9, .int 9]) := upd_same
  generalize upd H12 p13 (.tup [.int 9, .int 9]) = H13 at k13_9 k13_10 k13_11 k13_12 k13_13 ⊢
  walk_at "rd"
  intro p14 hp14
  have k14_9 := (upd_ne (o := .lst [.ref p12, .ref p13]) (ne_none hp14 k13_9)).trans k13_9
  have k14_10 := (upd_ne (o := .lst [.ref p12, .ref p13]) (ne_none hp14 k13_10)).trans k13_10
  have k14_11 := (upd_ne (o := .lst [.ref p12, .ref p13]) (ne_none hp14 k13_11)).trans k13_11
  have k14_12 := (upd_ne (o := .lst [.ref p12, .ref p13]) (ne_none hp14 k13_12)).trans k13_12
  have k14_13 := (upd_ne (o := .lst [.ref p12, .ref p13]) (ne_none hp14 k13_13)).trans k13_13
  have k14_14 : upd H13 p14 (.lst [.ref p12, .ref p13]) p14 = some (.lst [.ref p12, .ref p13]) := upd_same
  generalize upd H13 p14 (.lst [.ref p12, .ref p13]) = H14 at k14_9 k14_10 k14_11 k14_12 k14_13 k14_14 ⊢
  have pair : ∀ {H : Hp} {p : Addr} {i j : Int}, H p = some (.tup [.int i, .int j]) → Dp K H (.ref p) (.tuple [.int i, .int j]) := fun e => .tup (SqT.of e) (.cons (.int _) (.cons (.int _) .nil))
  refine ⟨.list [.tuple [.int 27, .int 3], .tuple [.int 9, .int 9]], .list [.tuple [.int 27, .int 3], .tuple [.int 9, .int 9]], .lst (SqL.of k14_11) (.cons (pair k14_9) (.cons (pair k14_10) .nil)), .lst (SqL.of k14_14) (.cons (pair k14_12) (.cons (pair k14_13) .nil)), rfl, rfl, ?_⟩
  rw [show PyData.eqv (.list [.tuple [.int 27, .int 3], .tuple [.int 9, .int 9]]) (.list [.tuple [.int 27, .int 3], .tuple [.int 9, .int 9]]) = true from rfl]
  exact q _
end
end Bs

namespace K08
open PySem PySem.Spec L2 Bs
open PyProof.Rows hiding St

def top (i : Nat) : Stmt := PySem.Challenge.pw_backslots_k08_slots_gains_and_prices.main.body.getD i (.Pass ⟨0, 0, 0, 0⟩)
/-- what the top has left: built-ins that are still so, constants -/
structure Txt (K : PySem.W.Frag) (mg : Str → Option Value) : Prop where
  isinstance : mg "isinstance" = none
  int : mg "int" = none
  bool : mg "bool" = none
  range : mg "range" = none
  min : mg "min" = none
  len : mg "len" = none
  max : mg "max" = none
  repr : mg "repr" = none
  enumerate : mg "enumerate" = none
  MOST_LENGTH : ∃ t, mg "MOST_LENGTH" = some (.int 1000000000000000000000000000000 t)
  MOST_SLOTS : ∃ t, mg "MOST_SLOTS" = some (.int 100 t)
section
variable {P : Program} {w : World} {K : PySem.W.Frag} {mg : Str → Option Value} {base : Heap}
abbrev s_is_int : Stmt := top 1
theorem sc_is_int : FnScope ["value"] ["value"] (defScope s_is_int) := ⟨rfl, rfl, rfl, by decide +kernel, rfl, by decide +kernel, by decide +kernel⟩
theorem ok_is_int (T : Txt K mg) (F : Df K ⟨("is_int", none), "is_int", "is_int", defArgs s_is_int, defBody s_is_int, defScope s_is_int, [], []⟩) (g : mg "is_int" = some (.ref (He.ga K "is_int"))) :
    Ok P w K mg base CX0 1 "is_int" ["value"] (sp_is_int K) := by
  refine mk_ok (st := s_is_int) F g (fun _ _ _ _ _ _ us hl => match us, hl with | [_], _ => rfl) sc_is_int (fun vs H Q E h => len_is_int K h) (fun cdv A outer s H vs Q E hr h => ⟨t_is_int K, PSs.nox ?_, pure_is_int K h⟩)
  exact (pss_one (ps_ret (pe_and (pe_callB call_isi (by rfl) T.isinstance (by decide +kernel) (pa_cons (pv 0) (pa_cons (pe_bltn (by rfl) T.int (by decide +kernel) rfl) pa_nil))) (pe_one (pe_not (pe_callB call_isi (by rfl) T.isinstance (by decide +kernel) (pa_cons (pv 0) (pa_cons (pe_bltn (by rfl) T.bool (by decide +kernel) rfl) pa_nil))))))))
abbrev s_is_whole : Stmt := top 2
theorem sc_is_whole : FnScope ["value", "low", "high"] ["value", "low", "high"] (defScope s_is_whole) := ⟨rfl, rfl, rfl, by decide +kernel, rfl, by decide +kernel, by decide +kernel⟩
theorem ok_is_whole (T : Txt K mg) (F : Df K ⟨("is_whole", none), "is_whole", "is_whole", defArgs s_is_whole, defBody s_is_whole, defScope s_is_whole, [], []⟩) (g : mg "is_whole" = some (.ref (He.ga K "is_whole"))) (h_is_int : Ok P w K mg base CX0 1 "is_int" ["value"] (sp_is_int K)) :
    Ok P w K mg base CX0 2 "is_whole" ["value", "low", "high"] (sp_is_whole K) := by
  refine mk_ok (st := s_is_whole) F g (fun _ _ _ _ _ _ us hl => match us, hl with | [_, _, _], _ => rfl) sc_is_whole (fun vs H Q E h => len_is_whole K h) (fun cdv A outer s H vs Q E hr h => ⟨t_is_whole K, PSs.nox ?_, pure_is_whole K h⟩)
  exact (pss_one (ps_ret (pe_and (pe_callO h_is_int (hr.mono (by decide)) rfl pass0 (pa_cons (pv 0) pa_nil)) (pe_one (pe_chain op_le op_le (pv 1) (pv 0) (pv 2))))))
abbrev s_require_length : Stmt := top 11
theorem sc_require_length : FnScope ["value"] ["value"] (defScope s_require_length) := ⟨rfl, rfl, rfl, by decide +kernel, rfl, by decide +kernel, by decide +kernel⟩
theorem ok_require_length (T : Txt K mg) (F : Df K ⟨("require_length", none), "require_length", "require_length", defArgs s_require_length, defBody s_require_length, defScope s_require_length, [], []⟩) (g : mg "require_length" = some (.ref (He.ga K "require_length"))) (h_is_whole : Ok P w K mg base CX0 2 "is_whole" ["value", "low", "high"] (sp_is_whole K)) :
    Ok P w K mg base CX0 3 "require_length" ["value"] (sp_require_length K) := by
  refine mk_ok (st := s_require_length) F g (fun _ _ _ _ _ _ us hl => match us, hl with | [_], _ => rfl) sc_require_length (fun vs H Q E h => len_require_length K h) (fun cdv A outer s H vs Q E hr h => ⟨t_require_length K, PSs.nox ?_, pure_require_length K h⟩)
  exact (pss_one (ps_if (pt_not (pt_val (pe_callO h_is_whole (hr.mono (by decide)) rfl pass0 (pa_cons (pv 0) (pa_cons pe_int (pa_cons (pe_globI T.MOST_LENGTH) pa_nil)))))) (pss_one ps_never) pss_nil))
abbrev s_require_slots : Stmt := top 12
theorem sc_require_slots : FnScope ["value"] ["value"] (defScope s_require_slots) := ⟨rfl, rfl, rfl, by decide +kernel, rfl, by decide +kernel, by decide +kernel⟩
theorem ok_require_slots (T : Txt K mg) (F : Df K ⟨("require_slots", none), "require_slots", "require_slots", defArgs s_require_slots, defBody s_require_slots, defScope s_require_slots, [], []⟩) (g : mg "require_slots" = some (.ref (He.ga K "require_slots"))) (h_is_whole : Ok P w K mg base CX0 2 "is_whole" ["value", "low", "high"] (sp_is_whole K)) :
    Ok P w K mg base CX0 3 "require_slots" ["value"] (sp_require_slots K) := by
  refine mk_ok (st := s_require_slots) F g (fun _ _ _ _ _ _ us hl => match us, hl with | [_], _ => rfl) sc_require_slots (fun vs H Q E h => len_require_slots K h) (fun cdv A outer s H vs Q E hr h => ⟨t_require_slots K, PSs.nox ?_, pure_require_slots K h⟩)
  exact (pss_one (ps_if (pt_not (pt_val (pe_callO h_is_whole (hr.mono (by decide)) rfl pass0 (pa_cons (pv 0) (pa_cons pe_int (pa_cons (pe_globI T.MOST_SLOTS) pa_nil)))))) (pss_one ps_never) pss_nil))
abbrev s_require_task : Stmt := top 13
theorem sc_require_task : FnScope ["length", "slots"] ["length", "slots"] (defScope s_require_task) := ⟨rfl, rfl, rfl, by decide +kernel, rfl, by decide +kernel, by decide +kernel⟩
theorem ok_require_task (T : Txt K mg) (F : Df K ⟨("require_task", none), "require_task", "require_task", defArgs s_require_task, defBody s_require_task, defScope s_require_task, [], []⟩) (g : mg "require_task" = some (.ref (He.ga K "require_task"))) (h_require_length : Ok P w K mg base CX0 3 "require_length" ["value"] (sp_require_length K)) (h_require_slots : Ok P w K mg base CX0 3 "require_slots" ["value"] (sp_require_slots K)) :
    Ok P w K mg base CX0 4 "require_task" ["length", "slots"] (sp_require_task K) := by
  refine mk_ok (st := s_require_task) F g (fun _ _ _ _ _ _ us hl => match us, hl with | [_, _], _ => rfl) sc_require_task (fun vs H Q E h => len_require_task K h) (fun cdv A outer s H vs Q E hr h => ⟨t_require_task K, PSs.nox ?_, pure_require_task K h⟩)
  exact (pss_cons (ps_expr (pe_callO h_require_length (hr.mono (by decide)) rfl pass0 (pa_cons (pv 0) pa_nil)))
  (pss_one (ps_expr (pe_callO h_require_slots (hr.mono (by decide)) rfl pass0 (pa_cons (pv 1) pa_nil)))))
abbrev s_reach_of : Stmt := top 14
theorem sc_reach_of : FnScope ["slots", "rounds", "found", "turn"] ["slots", "rounds"] (defScope s_reach_of) := ⟨rfl, rfl, rfl, by decide +kernel, rfl, by decide +kernel, by decide +kernel⟩
theorem ok_reach_of (T : Txt K mg) (F : Df K ⟨("reach_of", none), "reach_of", "reach_of", defArgs s_reach_of, defBody s_reach_of, defScope s_reach_of, [], []⟩) (g : mg "reach_of" = some (.ref (He.ga K "reach_of"))) :
    Ok P w K mg base CX0 1 "reach_of" ["slots", "rounds"] (sp_reach_of K) := by
  refine mk_ok (st := s_reach_of) F g (fun _ _ _ _ _ _ us hl => match us, hl with | [_, _], _ => rfl) sc_reach_of (fun vs H Q E h => len_reach_of K h) (fun cdv A outer s H vs Q E hr h => ⟨t_reach_of K, PSs.nox ?_, pure_reach_of K h⟩)
  exact (pss_cons (ps_set (i := 2) sc_reach_of.nd rfl (by first | exact Or.inl rfl | exact Or.inr rfl) pe_int)
  (pss_cons (ps_for PassesOwn.never rfl (pi_range2 rfl T.range (pa_cons pe_int (pa_cons (pe_op op_add (pv 0) pe_int) pa_nil))) (pg_name (i := 3) sc_reach_of.nd rfl (by first | exact Or.inl rfl | exact Or.inr rfl))
  (pss_one (ps_set (i := 2) sc_reach_of.nd rfl (by first | exact Or.inl rfl | exact Or.inr rfl) (pe_op op_divP (pe_op op_mulA (pv 2) (pe_op op_add (pv 1) (pv 3))) (pv 3)))))
  (pss_one (ps_ret (pv 2)))))
abbrev s_rounds_of : Stmt := top 15
theorem sc_rounds_of : FnScope ["length", "slots", "low", "high", "middle"] ["length", "slots"] (defScope s_rounds_of) := ⟨rfl, rfl, rfl, by decide +kernel, rfl, by decide +kernel, by decide +kernel⟩
theorem ok_rounds_of (T : Txt K mg) (F : Df K ⟨("rounds_of", none), "rounds_of", "rounds_of", defArgs s_rounds_of, defBody s_rounds_of, defScope s_rounds_of, [], []⟩) (g : mg "rounds_of" = some (.ref (He.ga K "rounds_of"))) (h_reach_of : Ok P w K mg base CX0 1 "reach_of" ["slots", "rounds"] (sp_reach_of K)) :
    Ok P w K mg base CX0 2 "rounds_of" ["length", "slots"] (sp_rounds_of K) := by
  refine mk_ok (st := s_rounds_of) F g (fun _ _ _ _ _ _ us hl => match us, hl with | [_, _], _ => rfl) sc_rounds_of (fun vs H Q E h => len_rounds_of K h) (fun cdv A outer s H vs Q E hr h => ⟨t_rounds_of K, PSs.nox ?_, pure_rounds_of K h⟩)
  exact (pss_cons (ps_asg (pe_tup (pa_cons (pe_un un_neg pe_int) (pa_cons pe_int pa_nil))) (pg_tup rfl (pgs_cons (pg_name (i := 2) sc_rounds_of.nd rfl (by first | exact Or.inl rfl | exact Or.inr rfl)) (pgs_cons (pg_name (i := 3) sc_rounds_of.nd rfl (by first | exact Or.inl rfl | exact Or.inr rfl)) pgs_nil))))
  (pss_cons (ps_while PassesOwn.never (pt_cmpR op_lt (pe_callO h_reach_of (hr.mono (by decide)) rfl pass0 (pa_cons (pv 1) (pa_cons (pv 3) pa_nil))) (pv 0) (nomark _))
  (pss_one (ps_par (i := 2) (j := 3) rfl sc_rounds_of.nd rfl rfl (by decide) rfl rfl (pa_cons (pv 3) (pa_cons (pe_op op_mulA pe_int (pv 3)) pa_nil)) (by rfl))))
  (pss_cons (ps_while PassesOwn.never (pt_cmpR op_gt (pe_op op_sub (pv 3) (pv 2)) pe_int (nomark _))
  (pss_cons (ps_set (i := 4) sc_rounds_of.nd rfl (by first | exact Or.inl rfl | exact Or.inr rfl) (pe_op op_divP (pe_op op_add (pv 2) (pv 3)) pe_int))
  (pss_one (ps_if (pt_cmpR op_lt (pe_callO h_reach_of (hr.mono (by decide)) rfl pass0 (pa_cons (pv 1) (pa_cons (pv 4) pa_nil))) (pv 0) (nomark _)) (pss_one (ps_set (i := 2) sc_rounds_of.nd rfl (by first | exact Or.inl rfl | exact Or.inr rfl) (pv 4))) (pss_one (ps_set (i := 3) sc_rounds_of.nd rfl (by first | exact Or.inl rfl | exact Or.inr rfl) (pv 4)))))))
  (pss_one (ps_ret (pv 3))))))
abbrev s_steps_with : Stmt := top 17
theorem sc_steps_with : FnScope ["length", "slots", "rounds"] ["length", "slots", "rounds"] (defScope s_steps_with) := ⟨rfl, rfl, rfl, by decide +kernel, rfl, by decide +kernel, by decide +kernel⟩
theorem ok_steps_with (T : Txt K mg) (F : Df K ⟨("steps_with", none), "steps_with", "steps_with", defArgs s_steps_with, defBody s_steps_with, defScope s_steps_with, [], []⟩) (g : mg "steps_with" = some (.ref (He.ga K "steps_with"))) (h_reach_of : Ok P w K mg base CX0 1 "reach_of" ["slots", "rounds"] (sp_reach_of K)) :
    Ok P w K mg base CX0 2 "steps_with" ["length", "slots", "rounds"] (sp_steps_with K) := by
  refine mk_ok (st := s_steps_with) F g (fun _ _ _ _ _ _ us hl => match us, hl with | [_, _, _], _ => rfl) sc_steps_with (fun vs H Q E h => len_steps_with K h) (fun cdv A outer s H vs Q E hr h => ⟨t_steps_with K, PSs.nox ?_, pure_steps_with K h⟩)
  exact (pss_one (ps_ret (pe_op op_sub (pe_op op_mulA (pv 2) (pv 0)) (pe_callO h_reach_of (hr.mono (by decide)) rfl pass0 (pa_cons (pe_op op_add (pv 1) pe_int) (pa_cons (pe_op op_sub (pv 2) pe_int) pa_nil))))))
abbrev s_least_of : Stmt := top 18
theorem sc_least_of : FnScope ["length", "slots"] ["length", "slots"] (defScope s_least_of) := ⟨rfl, rfl, rfl, by decide +kernel, rfl, by decide +kernel, by decide +kernel⟩
theorem ok_least_of (T : Txt K mg) (F : Df K ⟨("least_of", none), "least_of", "least_of", defArgs s_least_of, defBody s_least_of, defScope s_least_of, [], []⟩) (g : mg "least_of" = some (.ref (He.ga K "least_of"))) (h_rounds_of : Ok P w K mg base CX0 2 "rounds_of" ["length", "slots"] (sp_rounds_of K)) (h_steps_with : Ok P w K mg base CX0 2 "steps_with" ["length", "slots", "rounds"] (sp_steps_with K)) :
    Ok P w K mg base CX0 3 "least_of" ["length", "slots"] (sp_least_of K) := by
  refine mk_ok (st := s_least_of) F g (fun _ _ _ _ _ _ us hl => match us, hl with | [_, _], _ => rfl) sc_least_of (fun vs H Q E h => len_least_of K h) (fun cdv A outer s H vs Q E hr h => ⟨t_least_of K, PSs.nox ?_, pure_least_of K h⟩)
  exact (pss_one (ps_ret (pe_callO h_steps_with (hr.mono (by decide)) rfl pass0 (pa_cons (pv 0) (pa_cons (pv 1) (pa_cons (pe_callO h_rounds_of (hr.mono (by decide)) rfl pass0 (pa_cons (pv 0) (pa_cons (pv 1) pa_nil))) pa_nil))))))
abbrev s_require_number : Stmt := top 19
theorem sc_require_number : FnScope ["value"] ["value"] (defScope s_require_number) := ⟨rfl, rfl, rfl, by decide +kernel, rfl, by decide +kernel, by decide +kernel⟩
theorem ok_require_number (T : Txt K mg) (F : Df K ⟨("require_number", none), "require_number", "require_number", defArgs s_require_number, defBody s_require_number, defScope s_require_number, [], []⟩) (g : mg "require_number" = some (.ref (He.ga K "require_number"))) (h_is_int : Ok P w K mg base CX0 1 "is_int" ["value"] (sp_is_int K)) :
    Ok P w K mg base CX0 2 "require_number" ["value"] (sp_require_number K) := by
  refine mk_ok (st := s_require_number) F g (fun _ _ _ _ _ _ us hl => match us, hl with | [_], _ => rfl) sc_require_number (fun vs H Q E h => len_require_number K h) (fun cdv A outer s H vs Q E hr h => ⟨t_require_number K, PSs.nox ?_, pure_require_number K h⟩)
  exact (pss_one (ps_if (PW.pt (pw_or (pt_not (pt_val (pe_callO h_is_int (hr.mono (by decide)) rfl pass0 (pa_cons (pv 0) pa_nil)))) (pw_or1 (pt_cmpR op_lt (pv 0) pe_int (nomark _))))) (pss_one ps_never) pss_nil))
abbrev s_slot_gain : Stmt := top 20
theorem sc_slot_gain : FnScope ["length", "slots"] ["length", "slots"] (defScope s_slot_gain) := ⟨rfl, rfl, rfl, by decide +kernel, rfl, by decide +kernel, by decide +kernel⟩
theorem ok_slot_gain (T : Txt K mg) (F : Df K ⟨("slot_gain", none), "slot_gain", "slot_gain", defArgs s_slot_gain, defBody s_slot_gain, defScope s_slot_gain, [], []⟩) (g : mg "slot_gain" = some (.ref (He.ga K "slot_gain"))) (h_require_task : Ok P w K mg base CX0 4 "require_task" ["length", "slots"] (sp_require_task K)) (h_least_of : Ok P w K mg base CX0 3 "least_of" ["length", "slots"] (sp_least_of K)) :
    Ok P w K mg base CX0 5 "slot_gain" ["length", "slots"] (sp_slot_gain K) := by
  refine mk_ok (st := s_slot_gain) F g (fun _ _ _ _ _ _ us hl => match us, hl with | [_, _], _ => rfl) sc_slot_gain (fun vs H Q E h => len_slot_gain K h) (fun cdv A outer s H vs Q E hr h => ⟨t_slot_gain K, PSs.nox ?_, pure_slot_gain K h⟩)
  exact (pss_cons (ps_expr (pe_callO h_require_task (hr.mono (by decide)) rfl pass0 (pa_cons (pv 0) (pa_cons (pv 1) pa_nil))))
  (pss_one (ps_ret (pe_op op_sub (pe_callO h_least_of (hr.mono (by decide)) rfl pass0 (pa_cons (pv 0) (pa_cons (pv 1) pa_nil))) (pe_callO h_least_of (hr.mono (by decide)) rfl pass0 (pa_cons (pv 0) (pa_cons (pe_op op_add (pv 1) pe_int) pa_nil)))))))
abbrev s_slots_for : Stmt := top 21
theorem sc_slots_for : FnScope ["length", "steps", "slots"] ["length", "steps"] (defScope s_slots_for) := ⟨rfl, rfl, rfl, by decide +kernel, rfl, by decide +kernel, by decide +kernel⟩
theorem ok_slots_for (T : Txt K mg) (F : Df K ⟨("slots_for", none), "slots_for", "slots_for", defArgs s_slots_for, defBody s_slots_for, defScope s_slots_for, [], []⟩) (g : mg "slots_for" = some (.ref (He.ga K "slots_for"))) (h_require_length : Ok P w K mg base CX0 3 "require_length" ["value"] (sp_require_length K)) (h_require_number : Ok P w K mg base CX0 2 "require_number" ["value"] (sp_require_number K)) (h_least_of : Ok P w K mg base CX0 3 "least_of" ["length", "slots"] (sp_least_of K)) :
    Ok P w K mg base CX0 4 "slots_for" ["length", "steps"] (sp_slots_for K) := by
  refine mk_ok (st := s_slots_for) F g (fun _ _ _ _ _ _ us hl => match us, hl with | [_, _], _ => rfl) sc_slots_for (fun vs H Q E h => len_slots_for K h) (fun cdv A outer s H vs Q E hr h => ⟨t_slots_for K, PSs.nox ?_, pure_slots_for K h⟩)
  exact (pss_cons (ps_expr (pe_callO h_require_length (hr.mono (by decide)) rfl pass0 (pa_cons (pv 0) pa_nil)))
  (pss_cons (ps_expr (pe_callO h_require_number (hr.mono (by decide)) rfl pass0 (pa_cons (pv 1) pa_nil)))
  (pss_cons (ps_for PassesOwn.never rfl (pi_range2 rfl T.range (pa_cons pe_int (pa_cons (pe_op op_add (pe_globI T.MOST_SLOTS) pe_int) pa_nil))) (pg_name (i := 2) sc_slots_for.nd rfl (by first | exact Or.inl rfl | exact Or.inr rfl))
  (pss_one (ps_if (pt_cmpR op_le (pe_callO h_least_of (hr.mono (by decide)) rfl pass0 (pa_cons (pv 0) (pa_cons (pv 2) pa_nil))) (pv 1) (nomark _)) (pss_one (ps_ret (pv 2))) pss_nil)))
  (pss_one (ps_ret pe_non)))))
abbrev s_cheapest_slots : Stmt := top 22
theorem sc_cheapest_slots : FnScope ["length", "slot_price", "step_price", "found", "slots"] ["length", "slot_price", "step_price"] (defScope s_cheapest_slots) := ⟨rfl, rfl, rfl, by decide +kernel, rfl, by decide +kernel, by decide +kernel⟩
theorem ok_cheapest_slots (T : Txt K mg) (F : Df K ⟨("cheapest_slots", none), "cheapest_slots", "cheapest_slots", defArgs s_cheapest_slots, defBody s_cheapest_slots, defScope s_cheapest_slots, [], []⟩) (g : mg "cheapest_slots" = some (.ref (He.ga K "cheapest_slots"))) (h_require_length : Ok P w K mg base CX0 3 "require_length" ["value"] (sp_require_length K)) (h_require_number : Ok P w K mg base CX0 2 "require_number" ["value"] (sp_require_number K)) (h_least_of : Ok P w K mg base CX0 3 "least_of" ["length", "slots"] (sp_least_of K)) :
    Ok P w K mg base CX0 4 "cheapest_slots" ["length", "slot_price", "step_price"] (sp_cheapest_slots K) := by
  refine mk_ok (st := s_cheapest_slots) F g (fun _ _ _ _ _ _ us hl => match us, hl with | [_, _, _], _ => rfl) sc_cheapest_slots (fun vs H Q E h => len_cheapest_slots K h) (fun cdv A outer s H vs Q E hr h => ⟨t_cheapest_slots K, PSs.nox ?_, pure_cheapest_slots K h⟩)
  exact (pss_cons (ps_expr (pe_callO h_require_length (hr.mono (by decide)) rfl pass0 (pa_cons (pv 0) pa_nil)))
  (pss_cons (ps_expr (pe_callO h_require_number (hr.mono (by decide)) rfl pass0 (pa_cons (pv 1) pa_nil)))
  (pss_cons (ps_expr (pe_callO h_require_number (hr.mono (by decide)) rfl pass0 (pa_cons (pv 2) pa_nil)))
  (pss_cons (ps_set (i := 3) sc_cheapest_slots.nd rfl (by first | exact Or.inl rfl | exact Or.inr rfl) (pe_lst pa_nil))
  (pss_cons (ps_for PassesOwn.never rfl (pi_range2 rfl T.range (pa_cons pe_int (pa_cons (pe_op op_add (pe_globI T.MOST_SLOTS) pe_int) pa_nil))) (pg_name (i := 4) sc_cheapest_slots.nd rfl (by first | exact Or.inl rfl | exact Or.inr rfl))
  (pss_one (ps_expr (pe_bm PySem.F.plainAttrs_list PySem.F.slot_list_append PySem.F.type_list_append mt_append (pv 3) (pa_cons (pe_tup (pa_cons (pe_op op_add (pe_op op_mulA (pv 4) (pv 1)) (pe_op op_mulA (pe_callO h_least_of (hr.mono (by decide)) rfl pass0 (pa_cons (pv 0) (pa_cons (pv 4) pa_nil))) (pv 2))) (pa_cons (pv 4) pa_nil))) pa_nil)))))
  (pss_one (ps_ret (pe_callB (cr_minT hr rfl) (by rfl) T.min (by decide +kernel) (pa_cons (pv 3) pa_nil)))))))))
abbrev s_l_wound : Stmt := top 24
theorem sc_l_wound : FnScope ["_law_script", "_law_k", "_law_cell"] ["_law_script", "_law_k"] (defScope s_l_wound) := ⟨rfl, rfl, rfl, by decide +kernel, rfl, by decide +kernel, by decide +kernel⟩
theorem ok_l_wound (T : Txt K mg) (F : Df K ⟨("_law_wound", none), "_law_wound", "_law_wound", defArgs s_l_wound, defBody s_l_wound, defScope s_l_wound, [], []⟩) (g : mg "_law_wound" = some (.ref (He.ga K "_law_wound"))) :
    Ok P w K mg base CX0 1 "_law_wound" ["_law_script", "_law_k"] (sp_l_wound K) := by
  refine mk_ok (st := s_l_wound) F g (fun _ _ _ _ _ _ us hl => match us, hl with | [_, _], _ => rfl) sc_l_wound (fun vs H Q E h => len_l_wound K h) (fun cdv A outer s H vs Q E hr h => ⟨t_l_wound K, PSs.nox ?_, pure_l_wound K h⟩)
  exact (pss_cons (ps_set (i := 2) sc_l_wound.nd rfl (by first | exact Or.inl rfl | exact Or.inr rfl) pe_int)
  (pss_cons (ps_if (pt_cmpR op_lt (pv 1) (pe_callB call_len_seq (by rfl) T.len (by decide +kernel) (pa_cons (pv 0) pa_nil)) (nomark _)) (pss_one (ps_set (i := 2) sc_l_wound.nd rfl (by first | exact Or.inl rfl | exact Or.inr rfl) (pe_ix ix_list (pv 0) (pv 1) (fun _ _ => rfl)))) pss_nil)
  (pss_one (ps_ret (pe_lst (pa_cons (pe_callB (call_max2 rfl) (by rfl) T.max (by decide +kernel) (pa_cons pe_int (pa_cons (pe_op op_sub (pv 2) (pe_op op_powA pe_int pe_int)) pa_nil))) (pa_cons (pe_op op_add (pe_op op_add (pe_op op_mulA (pe_op op_modP (pe_callTy call_int1 (by rfl) T.int (by decide +kernel) (pa_cons (pv 2) pa_nil)) (pe_op op_add (pe_op op_powA pe_int pe_int) pe_int)) pe_int) (pe_op op_mulA pe_int (pv 1))) pe_int) (pa_cons pe_int pa_nil))))))))
abbrev s_l_spin : Stmt := top 25
theorem sc_l_spin : FnScope ["_law_reel", "_law_many", "_law_drawn", "_law_mixed"] ["_law_reel", "_law_many"] (defScope s_l_spin) := ⟨rfl, rfl, rfl, by decide +kernel, rfl, by decide +kernel, by decide +kernel⟩
theorem ok_l_spin (T : Txt K mg) (F : Df K ⟨("_law_spin", none), "_law_spin", "_law_spin", defArgs s_l_spin, defBody s_l_spin, defScope s_l_spin, [], []⟩) (g : mg "_law_spin" = some (.ref (He.ga K "_law_spin"))) :
    Ok P w K mg base CX0 1 "_law_spin" ["_law_reel", "_law_many"] (sp_l_spin K) := by
  refine mk_ok (st := s_l_spin) F g (fun _ _ _ _ _ _ us hl => match us, hl with | [_, _], _ => rfl) sc_l_spin (fun vs H Q E h => len_l_spin K h) (fun cdv A outer s H vs Q E hr h => ⟨t_l_spin K, PSs.nox ?_, pure_l_spin K h⟩)
  exact (pss_cons (ps_if (pt_cmpR op_gt (pe_ix ix_list (pv 0) pe_int (fun _ _ => rfl)) pe_int (nomark _)) (pss_cons (ps_set (i := 2) sc_l_spin.nd rfl (by first | exact Or.inl rfl | exact Or.inr rfl) (pe_op op_modP (pe_callTy call_int1 (by rfl) T.int (by decide +kernel) (pa_cons (pe_ix ix_list (pv 0) pe_int (fun _ _ => rfl)) pa_nil)) (pv 1)))
  (pss_cons (ps_asg (pe_op op_divP (pe_ix ix_list (pv 0) pe_int (fun _ _ => rfl)) (pv 1)) (pg_sub (pv 0) pe_int set_list))
  (pss_one (ps_ret (pv 2))))) pss_nil)
  (pss_cons (ps_asg (pe_op op_add (pe_ix ix_list (pv 0) pe_int (fun _ _ => rfl)) pe_int) (pg_sub (pv 0) pe_int set_list))
  (pss_cons (ps_set (i := 3) sc_l_spin.nd rfl (by first | exact Or.inl rfl | exact Or.inr rfl) (pe_op op_modP (pe_callTy call_int1 (by rfl) T.int (by decide +kernel) (pa_cons (pe_op op_powA (pe_op op_add (pe_ix ix_list (pv 0) pe_int (fun _ _ => rfl)) (pe_op op_mulA pe_int (pe_ix ix_list (pv 0) pe_int (fun _ _ => rfl)))) pe_int) pa_nil)) (pe_op op_add (pe_op op_powA pe_int pe_int) pe_int)))
  (pss_cons (ps_set (i := 3) sc_l_spin.nd rfl (by first | exact Or.inl rfl | exact Or.inr rfl) (pe_op op_modP (pe_callTy call_int1 (by rfl) T.int (by decide +kernel) (pa_cons (pe_op op_powA (pe_op op_add (pv 3) (pe_op op_mulA pe_int (pe_ix ix_list (pv 0) pe_int (fun _ _ => rfl)))) pe_int) pa_nil)) (pe_op op_add (pe_op op_powA pe_int pe_int) pe_int)))
  (pss_one (ps_ret (pe_op op_modP (pe_callTy call_int1 (by rfl) T.int (by decide +kernel) (pa_cons (pe_op op_divP (pv 3) pe_int) pa_nil)) (pv 1))))))))
abbrev s_l_choose : Stmt := top 26
theorem sc_l_choose : FnScope ["_law_slots", "_law_rounds_here", "_law_found", "_law_turn"] ["_law_slots", "_law_rounds_here"] (defScope s_l_choose) := ⟨rfl, rfl, rfl, by decide +kernel, rfl, by decide +kernel, by decide +kernel⟩
theorem ok_l_choose (T : Txt K mg) (F : Df K ⟨("_law_choose", none), "_law_choose", "_law_choose", defArgs s_l_choose, defBody s_l_choose, defScope s_l_choose, [], []⟩) (g : mg "_law_choose" = some (.ref (He.ga K "_law_choose"))) :
    Ok P w K mg base CX0 1 "_law_choose" ["_law_slots", "_law_rounds_here"] (sp_l_choose K) := by
  refine mk_ok (st := s_l_choose) F g (fun _ _ _ _ _ _ us hl => match us, hl with | [_, _], _ => rfl) sc_l_choose (fun vs H Q E h => len_l_choose K h) (fun cdv A outer s H vs Q E hr h => ⟨t_l_choose K, PSs.nox ?_, pure_l_choose K h⟩)
  exact (pss_cons (ps_set (i := 2) sc_l_choose.nd rfl (by first | exact Or.inl rfl | exact Or.inr rfl) pe_int)
  (pss_cons (ps_for PassesOwn.never rfl (pi_range1 rfl T.range (pa_cons (pe_callB (call_min2 rfl) (by rfl) T.min (by decide +kernel) (pa_cons (pv 0) (pa_cons (pe_callB (call_max2 rfl) (by rfl) T.max (by decide +kernel) (pa_cons (pv 1) (pa_cons pe_int pa_nil))) pa_nil))) pa_nil)) (pg_name (i := 3) sc_l_choose.nd rfl (by first | exact Or.inl rfl | exact Or.inr rfl))
  (pss_one (ps_set (i := 2) sc_l_choose.nd rfl (by first | exact Or.inl rfl | exact Or.inr rfl) (pe_op op_divP (pe_op op_mulA (pv 2) (pe_op op_sub (pe_op op_add (pv 0) (pv 1)) (pv 3))) (pe_op op_add (pv 3) pe_int)))))
  (pss_one (ps_ret (pe_ifExp (pt_cmpR op_ge (pv 1) pe_int (nomark _)) (pv 2) pe_int)))))
abbrev s_l_rounds : Stmt := top 27
theorem sc_l_rounds : FnScope ["_law_length", "_law_slots", "_law_low", "_law_high", "_law_middle"] ["_law_length", "_law_slots"] (defScope s_l_rounds) := ⟨rfl, rfl, rfl, by decide +kernel, rfl, by decide +kernel, by decide +kernel⟩
theorem ok_l_rounds (T : Txt K mg) (F : Df K ⟨("_law_rounds", none), "_law_rounds", "_law_rounds", defArgs s_l_rounds, defBody s_l_rounds, defScope s_l_rounds, [], []⟩) (g : mg "_law_rounds" = some (.ref (He.ga K "_law_rounds"))) (h_l_choose : Ok P w K mg base CX0 1 "_law_choose" ["_law_slots", "_law_rounds_here"] (sp_l_choose K)) :
    Ok P w K mg base CX0 2 "_law_rounds" ["_law_length", "_law_slots"] (sp_l_rounds_k08 K) := by
  refine mk_ok (st := s_l_rounds) F g (fun _ _ _ _ _ _ us hl => match us, hl with | [_, _], _ => rfl) sc_l_rounds (fun vs H Q E h => len_l_rounds_k08 K h) (fun cdv A outer s H vs Q E hr h => ⟨t_l_rounds_k08 K, PSs.nox ?_, pure_l_rounds_k08 K h⟩)
  exact (pss_cons (ps_asg (pe_tup (pa_cons (pe_un un_neg pe_int) (pa_cons pe_int pa_nil))) (pg_tup rfl (pgs_cons (pg_name (i := 2) sc_l_rounds.nd rfl (by first | exact Or.inl rfl | exact Or.inr rfl)) (pgs_cons (pg_name (i := 3) sc_l_rounds.nd rfl (by first | exact Or.inl rfl | exact Or.inr rfl)) pgs_nil))))
  (pss_cons (ps_while PassesOwn.never (pt_cmpR op_lt (pe_callO h_l_choose (hr.mono (by decide)) rfl pass0 (pa_cons (pv 1) (pa_cons (pv 3) pa_nil))) (pv 0) (nomark _))
  (pss_one (ps_par (i := 2) (j := 3) rfl sc_l_rounds.nd rfl rfl (by decide) rfl rfl (pa_cons (pv 3) (pa_cons (pe_op op_mulA pe_int (pv 3)) pa_nil)) (by rfl))))
  (pss_cons (ps_while PassesOwn.never (pt_cmpR op_gt (pe_op op_sub (pv 3) (pv 2)) pe_int (nomark _))
  (pss_cons (ps_set (i := 4) sc_l_rounds.nd rfl (by first | exact Or.inl rfl | exact Or.inr rfl) (pe_op op_divP (pe_op op_add (pv 2) (pv 3)) pe_int))
  (pss_one (ps_if (pt_cmpR op_lt (pe_callO h_l_choose (hr.mono (by decide)) rfl pass0 (pa_cons (pv 1) (pa_cons (pv 4) pa_nil))) (pv 0) (nomark _)) (pss_one (ps_set (i := 2) sc_l_rounds.nd rfl (by first | exact Or.inl rfl | exact Or.inr rfl) (pv 4))) (pss_one (ps_set (i := 3) sc_l_rounds.nd rfl (by first | exact Or.inl rfl | exact Or.inr rfl) (pv 4)))))))
  (pss_one (ps_ret (pv 3))))))
abbrev s_l_least : Stmt := top 28
theorem sc_l_least : FnScope ["_law_length", "_law_slots", "_law_r"] ["_law_length", "_law_slots"] (defScope s_l_least) := ⟨rfl, rfl, rfl, by decide +kernel, rfl, by decide +kernel, by decide +kernel⟩
theorem ok_l_least (T : Txt K mg) (F : Df K ⟨("_law_least", none), "_law_least", "_law_least", defArgs s_l_least, defBody s_l_least, defScope s_l_least, [], []⟩) (g : mg "_law_least" = some (.ref (He.ga K "_law_least"))) (h_l_rounds : Ok P w K mg base CX0 2 "_law_rounds" ["_law_length", "_law_slots"] (sp_l_rounds_k08 K)) (h_l_choose : Ok P w K mg base CX0 1 "_law_choose" ["_law_slots", "_law_rounds_here"] (sp_l_choose K)) :
    Ok P w K mg base CX0 3 "_law_least" ["_law_length", "_law_slots"] (sp_l_least_k08 K) := by
  refine mk_ok (st := s_l_least) F g (fun _ _ _ _ _ _ us hl => match us, hl with | [_, _], _ => rfl) sc_l_least (fun vs H Q E h => len_l_least_k08 K h) (fun cdv A outer s H vs Q E hr h => ⟨t_l_least_k08 K, PSs.nox ?_, pure_l_least_k08 K h⟩)
  exact (pss_cons (ps_set (i := 2) sc_l_least.nd rfl (by first | exact Or.inl rfl | exact Or.inr rfl) (pe_callO h_l_rounds (hr.mono (by decide)) rfl pass0 (pa_cons (pv 0) (pa_cons (pv 1) pa_nil))))
  (pss_one (ps_ret (pe_op op_sub (pe_op op_mulA (pv 2) (pv 0)) (pe_callO h_l_choose (hr.mono (by decide)) rfl pass0 (pa_cons (pe_op op_add (pv 1) pe_int) (pa_cons (pe_op op_sub (pv 2) pe_int) pa_nil)))))))
abbrev s_l_great : Stmt := top 29
theorem sc_l_great : FnScope ["_law_reel", "_law_slots", "_law_edge", "_law_some"] ["_law_reel"] (defScope s_l_great) := ⟨rfl, rfl, rfl, by decide +kernel, rfl, by decide +kernel, by decide +kernel⟩
theorem ok_l_great (T : Txt K mg) (F : Df K ⟨("_law_great", none), "_law_great", "_law_great", defArgs s_l_great, defBody s_l_great, defScope s_l_great, [], []⟩) (g : mg "_law_great" = some (.ref (He.ga K "_law_great"))) (h_l_spin : Ok P w K mg base CX0 1 "_law_spin" ["_law_reel", "_law_many"] (sp_l_spin K)) (h_l_choose : Ok P w K mg base CX0 1 "_law_choose" ["_law_slots", "_law_rounds_here"] (sp_l_choose K)) :
    Ok P w K mg base CX0 2 "_law_great" ["_law_reel"] (sp_l_great K) := by
  refine mk_ok (st := s_l_great) F g (fun _ _ _ _ _ _ us hl => match us, hl with | [_], _ => rfl) sc_l_great (fun vs H Q E h => len_l_great K h) (fun cdv A outer s H vs Q E hr h => ⟨t_l_great K, PSs.nox ?_, pure_l_great K h⟩)
  exact (pss_cons (ps_set (i := 1) sc_l_great.nd rfl (by first | exact Or.inl rfl | exact Or.inr rfl) (pe_op op_add pe_int (pe_callO h_l_spin (hr.mono (by decide)) rfl pass0 (pa_cons (pv 0) (pa_cons (pe_ix ix_list (pe_lst (pa_cons pe_int (pa_cons pe_int pa_nil))) (pe_callO h_l_spin (hr.mono (by decide)) rfl pass0 (pa_cons (pv 0) (pa_cons pe_int pa_nil))) (fun _ _ => rfl)) pa_nil)))))
  (pss_cons (ps_set (i := 2) sc_l_great.nd rfl (by first | exact Or.inl rfl | exact Or.inr rfl) (pe_callB (call_min2 rfl) (by rfl) T.min (by decide +kernel) (pa_cons (pe_op op_sub (pe_op op_powA pe_int pe_int) pe_int) (pa_cons (pe_callO h_l_choose (hr.mono (by decide)) rfl pass0 (pa_cons (pv 1) (pa_cons (pe_callO h_l_spin (hr.mono (by decide)) rfl pass0 (pa_cons (pv 0) (pa_cons (pe_ix ix_list (pe_lst (pa_cons pe_int (pa_cons pe_int pa_nil))) (pe_callO h_l_spin (hr.mono (by decide)) rfl pass0 (pa_cons (pv 0) (pa_cons pe_int pa_nil))) (fun _ _ => rfl)) pa_nil))) pa_nil))) pa_nil))))
  (pss_cons (ps_set (i := 3) sc_l_great.nd rfl (by first | exact Or.inl rfl | exact Or.inr rfl) (pe_lst (pa_cons (pe_op op_add pe_int (pe_callO h_l_spin (hr.mono (by decide)) rfl pass0 (pa_cons (pv 0) (pa_cons (pe_op op_powA pe_int pe_int) pa_nil)))) (pa_cons (pe_op op_add pe_int (pe_callO h_l_spin (hr.mono (by decide)) rfl pass0 (pa_cons (pv 0) (pa_cons (pe_op op_powA pe_int pe_int) pa_nil)))) (pa_cons (pe_callB (call_max2 rfl) (by rfl) T.max (by decide +kernel) (pa_cons pe_int (pa_cons (pe_op op_add (pe_op op_sub (pv 2) pe_int) (pe_callO h_l_spin (hr.mono (by decide)) rfl pass0 (pa_cons (pv 0) (pa_cons pe_int pa_nil)))) pa_nil))) pa_nil)))))
  (pss_one (ps_ret (pe_tup (pa_cons (pe_ix ix_list (pv 3) (pe_callO h_l_spin (hr.mono (by decide)) rfl pass0 (pa_cons (pv 0) (pa_cons pe_int pa_nil))) (fun _ _ => rfl)) (pa_cons (pv 1) pa_nil))))))))
abbrev s_l_right : Stmt := top 30
theorem sc_l_right : FnScope ["_law_reel", "_law_n", "_law_costs", "_law_turn", "_law_s", "_law_asked", "_law_steps", "_law_fit", "_law_one", "_law_other", "_law_prices", "_law_spot"] ["_law_reel", "_law_n"] (defScope s_l_right) := ⟨rfl, rfl, rfl, by decide +kernel, rfl, by decide +kernel, by decide +kernel⟩
theorem ok_l_right (T : Txt K mg) (F : Df K ⟨("_law_right", none), "_law_right", "_law_right", defArgs s_l_right, defBody s_l_right, defScope s_l_right, [], []⟩) (g : mg "_law_right" = some (.ref (He.ga K "_law_right"))) (h_l_least : Ok P w K mg base CX0 3 "_law_least" ["_law_length", "_law_slots"] (sp_l_least_k08 K)) (h_l_spin : Ok P w K mg base CX0 1 "_law_spin" ["_law_reel", "_law_many"] (sp_l_spin K)) (h_slot_gain : Ok P w K mg base CX0 5 "slot_gain" ["length", "slots"] (sp_slot_gain K)) (h_slots_for : Ok P w K mg base CX0 4 "slots_for" ["length", "steps"] (sp_slots_for K)) (h_cheapest_slots : Ok P w K mg base CX0 4 "cheapest_slots" ["length", "slot_price", "step_price"] (sp_cheapest_slots K)) :
    OkG P w K mg base CX0 6 "_law_right" ["_law_reel", "_law_n"] (sp_l_right_k08 K) := by
  refine mk_okG (st := s_l_right) F g (fun _ _ _ _ _ _ us hl => match us, hl with | [_, _], _ => rfl) sc_l_right (fun vs H Q E h => len_l_right_k08 K h) (fun cdv A outer s H vs Q E hr gd h => ⟨t_l_right_k08 K, PSs.nox ?_, pure_l_right_k08 K h⟩)
  exact (pss_cons (ps_set (i := 2) sc_l_right.nd rfl (by first | exact Or.inl rfl | exact Or.inr rfl) (pe_lc (own := [("_law_s", 4)]) (g := (gName 4)) (tt := tYes) rfl sc_l_right.nd (pi_range2 rfl T.range (pa_cons pe_int (pa_cons pe_int pa_nil))) (blkOk_by (own := [("_law_s", 4)]) (N := ["_law_reel", "_law_n", "_law_costs", "_law_turn", "_law_s", "_law_asked", "_law_steps", "_law_fit", "_law_one", "_law_other", "_law_prices", "_law_spot"]) (sc := defScope s_l_right) (by decide +kernel)) (fun _ _ _ _ _ => (pg_name (i := 4) sc_l_right.nd rfl (by first | exact Or.inl rfl | exact Or.inr rfl))) (fun _ _ _ _ _ => pts_nil) (fun _ _ _ _ _ => (pe_callO h_l_least (hr.mono (by decide)) rfl pass0 (pa_cons (pv 1) (pa_cons (pv 4) pa_nil))))))
  (pss_cons (ps_for PassesOwn.never rfl (pi_range1 rfl T.range (pa_cons pe_int pa_nil)) (pg_name (i := 3) sc_l_right.nd rfl (by first | exact Or.inl rfl | exact Or.inr rfl))
  (pss_cons (ps_set (i := 4) sc_l_right.nd rfl (by first | exact Or.inl rfl | exact Or.inr rfl) (pe_op op_add pe_int (pe_callO h_l_spin (hr.mono (by decide)) rfl pass0 (pa_cons (pv 0) (pa_cons pe_int pa_nil)))))
  (pss_one (ps_if (pt_cmpR op_ne (pe_callB call_reprA (by rfl) T.repr (by decide +kernel) (pa_cons (pe_callO h_slot_gain (hr.mono (by decide)) rfl pass0 (pa_cons (pv 1) (pa_cons (pv 4) pa_nil))) pa_nil)) (pe_callB call_reprA (by rfl) T.repr (by decide +kernel) (pa_cons (pe_op op_sub (pe_ix ix_list (pv 2) (pe_op op_sub (pv 4) pe_int) (fun _ _ => rfl)) (pe_ix ix_list (pv 2) (pv 4) (fun _ _ => rfl))) pa_nil)) (nomark _)) (pss_one (ps_ret pe_bl)) pss_nil))))
  (pss_cons (ps_setLc (i := 5) rfl sc_l_right.nd rfl rfl (sw_true rfl rfl rfl (by decide +kernel)) (own := [("_law_turn", 3)]) (g := (gName 3)) (tt := tYes) (pi_range1 rfl T.range (pa_cons pe_int pa_nil)) (blkOk_by (own := [("_law_turn", 3)]) (N := ["_law_reel", "_law_n", "_law_costs", "_law_turn", "_law_s", "_law_asked", "_law_steps", "_law_fit", "_law_one", "_law_other", "_law_prices", "_law_spot"]) (sc := defScope s_l_right) (by decide +kernel)) (fun _ _ _ _ _ => (pg_name (i := 3) sc_l_right.nd rfl (by first | exact Or.inl rfl | exact Or.inr rfl))) (fun _ _ _ _ _ => pts_nil) (fun _ _ _ _ _ => (pe_op op_sub (pe_op op_add (pe_ix ix_list (pv 2) (pe_callO h_l_spin (hr.mono (by decide)) rfl pass0 (pa_cons (pv 0) (pa_cons pe_int pa_nil))) (fun _ _ => rfl)) (pe_callO h_l_spin (hr.mono (by decide)) rfl pass0 (pa_cons (pv 0) (pa_cons pe_int pa_nil)))) pe_int)))
  (pss_cons (ps_for PassesOwn.never rfl (pi_list (pe_op op_cat (pv 5) (pe_lst (pa_cons (pe_ix ix_list (pe_lst (pa_cons pe_int (pa_cons (pe_ix ix_list (pv 2) pe_int (fun _ _ => rfl)) (pa_cons (pe_op op_sub (pe_ix ix_list (pv 2) pe_int (fun _ _ => rfl)) pe_int) pa_nil)))) (pe_callO h_l_spin (hr.mono (by decide)) rfl pass0 (pa_cons (pv 0) (pa_cons pe_int pa_nil))) (fun _ _ => rfl)) (pa_cons (pe_callO h_l_spin (hr.mono (by decide)) rfl pass0 (pa_cons (pv 0) (pa_cons (pe_op op_add (pe_ix ix_list (pv 2) pe_int (fun _ _ => rfl)) pe_int) pa_nil))) (pa_cons (pe_op op_powA pe_int pe_int) pa_nil)))))) (pg_name (i := 6) sc_l_right.nd rfl (by first | exact Or.inl rfl | exact Or.inr rfl))
  (pss_cons (ps_setLc (i := 7) rfl sc_l_right.nd rfl rfl (sw_true rfl rfl rfl (by decide +kernel)) (own := [("_law_s", 4)]) (g := (gName 4)) (tt := (tTest (tOp oLe (tOp (rIxL K) (tVar 2) (tOp oSub (tVar 4) (tC (.int 1)))) (tVar 6)))) (pi_range2 rfl T.range (pa_cons pe_int (pa_cons pe_int pa_nil))) (blkOk_by (own := [("_law_s", 4)]) (N := ["_law_reel", "_law_n", "_law_costs", "_law_turn", "_law_s", "_law_asked", "_law_steps", "_law_fit", "_law_one", "_law_other", "_law_prices", "_law_spot"]) (sc := defScope s_l_right) (by decide +kernel)) (fun _ _ _ _ _ => (pg_name (i := 4) sc_l_right.nd rfl (by first | exact Or.inl rfl | exact Or.inr rfl))) (fun _ _ _ _ _ => pts_one (pt_cmpR op_le (pe_ix ix_list (pv 2) (pe_op op_sub (pv 4) pe_int) (fun _ _ => rfl)) (pv 6) (nomark _))) (fun _ _ _ _ _ => (pv 4)))
  (pss_one (ps_if (PW.pt (pw_and (pt_cmpR op_ge (pv 6) pe_int (nomark _)) (pw_and1 (pt_cmpR op_ne (pe_callB call_reprA (by rfl) T.repr (by decide +kernel) (pa_cons (pe_callO h_slots_for (hr.mono (by decide)) rfl pass0 (pa_cons (pv 1) (pa_cons (pv 6) pa_nil))) pa_nil)) (pe_callB call_reprA (by rfl) T.repr (by decide +kernel) (pa_cons (pe_ifExp (pt_cmpR (op_neD hr.units) (pv 7) (pe_lst pa_nil) (nomark _)) (pe_ix ix_list (pv 7) pe_int (fun _ _ => rfl)) pe_non) pa_nil)) (nomark _))))) (pss_one (ps_ret pe_bl)) pss_nil))))
  (pss_cons (ps_for PassesOwn.never rfl (pi_range1 rfl T.range (pa_cons pe_int pa_nil)) (pg_name (i := 3) sc_l_right.nd rfl (by first | exact Or.inl rfl | exact Or.inr rfl))
  (pss_cons (ps_set (i := 8) sc_l_right.nd rfl (by first | exact Or.inl rfl | exact Or.inr rfl) (pe_callO h_l_spin (hr.mono (by decide)) rfl pass0 (pa_cons (pv 0) (pa_cons (pe_ix ix_list (pe_lst (pa_cons pe_int (pa_cons pe_int (pa_cons (pe_op op_powA pe_int pe_int) (pa_cons (pe_op op_powA pe_int pe_int) pa_nil))))) (pe_callO h_l_spin (hr.mono (by decide)) rfl pass0 (pa_cons (pv 0) (pa_cons pe_int pa_nil))) (fun _ _ => rfl)) pa_nil))))
  (pss_cons (ps_set (i := 9) sc_l_right.nd rfl (by first | exact Or.inl rfl | exact Or.inr rfl) (pe_callO h_l_spin (hr.mono (by decide)) rfl pass0 (pa_cons (pv 0) (pa_cons (pe_ix ix_list (pe_lst (pa_cons pe_int (pa_cons pe_int (pa_cons (pe_op op_powA pe_int pe_int) (pa_cons (pe_op op_powA pe_int pe_int) pa_nil))))) (pe_callO h_l_spin (hr.mono (by decide)) rfl pass0 (pa_cons (pv 0) (pa_cons pe_int pa_nil))) (fun _ _ => rfl)) pa_nil))))
  (pss_cons (ps_if (pt_cmpR op_eq (pv 3) pe_int (nomark _)) (pss_cons (ps_set (i := 9) sc_l_right.nd rfl (by first | exact Or.inl rfl | exact Or.inr rfl) (pe_callB (call_min2 rfl) (by rfl) T.min (by decide +kernel) (pa_cons (pv 9) (pa_cons (pe_op op_powA pe_int pe_int) pa_nil))))
  (pss_one (ps_set (i := 8) sc_l_right.nd rfl (by first | exact Or.inl rfl | exact Or.inr rfl) (pe_op op_mulA (pv 9) (pe_op op_sub (pe_ix ix_list (pv 2) (pe_op op_sub (pv 4) pe_int) (fun _ _ => rfl)) (pe_ix ix_list (pv 2) (pv 4) (fun _ _ => rfl))))))) pss_nil)
  (pss_cons (ps_setLc (i := 10) rfl sc_l_right.nd rfl rfl (sw_true rfl rfl rfl (by decide +kernel)) (own := [("_law_spot", 11), ("_law_steps", 6)]) (g := (gTup K 2 (gCons (gName 11) (gCons (gName 6) gNil)))) (tt := tYes) (pi_enum rfl T.enumerate (pa_cons (pe_slice sl_list (pv 2) po_none (po_some pe_int)) pa_nil)) (blkOk_by (own := [("_law_spot", 11), ("_law_steps", 6)]) (N := ["_law_reel", "_law_n", "_law_costs", "_law_turn", "_law_s", "_law_asked", "_law_steps", "_law_fit", "_law_one", "_law_other", "_law_prices", "_law_spot"]) (sc := defScope s_l_right) (by decide +kernel)) (fun _ _ _ _ _ => (pg_tup rfl (pgs_cons (pg_name (i := 11) sc_l_right.nd rfl (by first | exact Or.inl rfl | exact Or.inr rfl)) (pgs_cons (pg_name (i := 6) sc_l_right.nd rfl (by first | exact Or.inl rfl | exact Or.inr rfl)) pgs_nil)))) (fun _ _ _ _ _ => pts_nil) (fun _ _ _ _ _ => (pe_op op_add (pe_op op_mulA (pv 8) (pe_op op_add (pv 11) pe_int)) (pe_op op_mulA (pv 9) (pv 6)))))
  (pss_one (ps_if (pt_cmpR op_ne (pe_callB (call_reprD hr gd) (by rfl) T.repr (by decide +kernel) (pa_cons (pe_callO h_cheapest_slots (hr.mono (by decide)) rfl pass0 (pa_cons (pv 1) (pa_cons (pv 8) (pa_cons (pv 9) pa_nil)))) pa_nil)) (pe_callB (call_reprD hr gd) (by rfl) T.repr (by decide +kernel) (pa_cons (pe_tup (pa_cons (pe_callB (cr_min rfl) (by rfl) T.min (by decide +kernel) (pa_cons (pv 10) pa_nil)) (pa_cons (pe_op op_add (pe_bm PySem.F.plainAttrs_list PySem.F.slot_list_index PySem.F.type_list_index mt_index (pv 10) (pa_cons (pe_callB (cr_min rfl) (by rfl) T.min (by decide +kernel) (pa_cons (pv 10) pa_nil)) pa_nil)) pe_int) pa_nil))) pa_nil)) (nomark _)) (pss_one (ps_ret pe_bl)) pss_nil)))))))
  (pss_one (ps_ret pe_bl)))))))
abbrev s_law : Stmt := top 31
theorem sc_law : FnScope ["_law_script", "_law_k", "_law_reel", "_law_n", "_law_told"] ["_law_script"] (defScope s_law) := ⟨rfl, rfl, rfl, by decide +kernel, rfl, by decide +kernel, by decide +kernel⟩
theorem ok_law (T : Txt K mg) (F : Df K ⟨("law", none), "law", "law", defArgs s_law, defBody s_law, defScope s_law, [], []⟩) (g : mg "law" = some (.ref (He.ga K "law"))) (h_l_wound : Ok P w K mg base CX0 1 "_law_wound" ["_law_script", "_law_k"] (sp_l_wound K)) (h_l_spin : Ok P w K mg base CX0 1 "_law_spin" ["_law_reel", "_law_many"] (sp_l_spin K)) (h_l_great : Ok P w K mg base CX0 2 "_law_great" ["_law_reel"] (sp_l_great K)) (h_l_right : OkG P w K mg base CX0 6 "_law_right" ["_law_reel", "_law_n"] (sp_l_right_k08 K)) (h_slot_gain : Ok P w K mg base CX0 5 "slot_gain" ["length", "slots"] (sp_slot_gain K)) (h_slots_for : Ok P w K mg base CX0 4 "slots_for" ["length", "steps"] (sp_slots_for K)) (h_cheapest_slots : Ok P w K mg base CX0 4 "cheapest_slots" ["length", "slot_price", "step_price"] (sp_cheapest_slots K)) :
    OkG P w K mg base CX0 7 "law" ["_law_script"] (sp_law_k08 K) := by
  refine mk_okG (st := s_law) F g (fun _ _ _ _ _ _ us hl => match us, hl with | [_], _ => rfl) sc_law (fun vs H Q E h => len_law_k08 K h) (fun cdv A outer s H vs Q E hr gd h => ⟨t_law_k08 K, PSs.nox ?_, pure_law_k08 K h⟩)
  exact (pss_cons (ps_for PassesOwn.never rfl (pi_range1 rfl T.range (pa_cons (pe_callB (call_max2 rfl) (by rfl) T.max (by decide +kernel) (pa_cons pe_int (pa_cons (pe_callB (call_min2 rfl) (by rfl) T.min (by decide +kernel) (pa_cons pe_int (pa_cons (pe_callB call_len_seq (by rfl) T.len (by decide +kernel) (pa_cons (pv 0) pa_nil)) pa_nil))) pa_nil))) pa_nil)) (pg_name (i := 1) sc_law.nd rfl (by first | exact Or.inl rfl | exact Or.inr rfl))
  (pss_cons (ps_set (i := 2) sc_law.nd rfl (by first | exact Or.inl rfl | exact Or.inr rfl) (pe_callO h_l_wound (hr.mono (by decide)) rfl pass0 (pa_cons (pv 0) (pa_cons (pv 1) pa_nil))))
  (pss_one (ps_for PassesOwn.never rfl (pi_list (pe_slice sl_list (pe_lst (pa_cons (pe_op op_add pe_int (pe_callO h_l_spin (hr.mono (by decide)) rfl pass0 (pa_cons (pv 2) (pa_cons (pe_ix ix_list (pe_lst (pa_cons pe_int (pa_cons pe_int pa_nil))) (pe_callO h_l_spin (hr.mono (by decide)) rfl pass0 (pa_cons (pv 2) (pa_cons pe_int pa_nil))) (fun _ _ => rfl)) pa_nil)))) (pa_cons (pe_ix ix_tup (pe_callO h_l_great (hr.mono (by decide)) rfl pass0 (pa_cons (pv 2) pa_nil)) pe_int (fun _ _ => rfl)) pa_nil))) po_none (po_some (pe_op op_sub pe_int (pe_callTy call_int1 (by rfl) T.int (by decide +kernel) (pa_cons (pe_cmpR op_gt (pv 1) pe_int (nomark _)) pa_nil)))))) (pg_name (i := 3) sc_law.nd rfl (by first | exact Or.inl rfl | exact Or.inr rfl))
  (pss_one (ps_if (pt_not (pt_val (pe_callG h_l_right (hr.mono (by decide)) gd rfl pass0 (pa_cons (pv 2) (pa_cons (pv 3) pa_nil))))) (pss_one (ps_ret pe_bl)) pss_nil))))))
  (pss_cons (ps_set (i := 4) sc_law.nd rfl (by first | exact Or.inl rfl | exact Or.inr rfl) (pe_lst (pa_cons (pe_callO h_slot_gain (hr.mono (by decide)) rfl pass0 (pa_cons pe_int (pa_cons pe_int pa_nil))) (pa_cons (pe_callO h_slots_for (hr.mono (by decide)) rfl pass0 (pa_cons pe_int (pa_cons pe_int pa_nil))) (pa_cons (pe_callO h_slots_for (hr.mono (by decide)) rfl pass0 (pa_cons pe_int (pa_cons pe_int pa_nil))) (pa_cons (pe_callO h_slots_for (hr.mono (by decide)) rfl pass0 (pa_cons pe_int (pa_cons pe_int pa_nil))) (pa_cons (pe_callO h_slots_for (hr.mono (by decide)) rfl pass0 (pa_cons pe_int (pa_cons pe_int pa_nil))) pa_nil)))))))
  (pss_one (ps_ret (pe_and (pe_cmpR (op_eqD hr.units) (pv 4) (pe_lst (pa_cons pe_int (pa_cons pe_int (pa_cons pe_non (pa_cons pe_int (pa_cons pe_int pa_nil)))))) (nomark _)) (pe_one (pe_cmpR (op_eqD hr.units) (pe_lst (pa_cons (pe_callO h_cheapest_slots (hr.mono (by decide)) rfl pass0 (pa_cons pe_int (pa_cons pe_int (pa_cons pe_int pa_nil)))) (pa_cons (pe_callO h_cheapest_slots (hr.mono (by decide)) rfl pass0 (pa_cons pe_int (pa_cons pe_int (pa_cons pe_int pa_nil)))) pa_nil))) (pe_lst (pa_cons (pe_tup (pa_cons pe_int (pa_cons pe_int pa_nil))) (pa_cons (pe_tup (pa_cons pe_int (pa_cons pe_int pa_nil))) pa_nil))) (nomark _))))))))
end
/-! ### the head: facts by names, the run -/
abbrev R : PySem.W.OpenRow := PySem.W.OpenLaw.row PySem.Challenge.rw_backslots_k08_slots_gains_and_prices
def mkD (x : Str) (i : Nat) : He.DefD := ⟨(x, none), x, x, defArgs (top i), defBody (top i), defScope (top i), [], []⟩
def fn : List He.DefD := ([mkD "is_int" 1, mkD "is_whole" 2, mkD "require_length" 11, mkD "require_slots" 12, mkD "require_task" 13, mkD "reach_of" 14, mkD "rounds_of" 15, mkD "steps_with" 17, mkD "least_of" 18, mkD "require_number" 19, mkD "slot_gain" 20, mkD "slots_for" 21, mkD "cheapest_slots" 22, mkD "_law_wound" 24, mkD "_law_spin" 25, mkD "_law_choose" 26, mkD "_law_rounds" 27, mkD "_law_least" 28, mkD "_law_great" 29, mkD "_law_right" 30, mkD "law" 31] : List He.DefD)
def fa : List He.Fa := ([.glo "is_int", .glo "is_whole", .glo "require_length", .glo "require_slots", .glo "require_task", .glo "reach_of", .glo "rounds_of", .glo "steps_with", .glo "least_of", .glo "require_number", .glo "slot_gain", .glo "slots_for", .glo "cheapest_slots", .glo "_law_wound", .glo "_law_spin", .glo "_law_choose", .glo "_law_rounds", .glo "_law_least", .glo "_law_great", .glo "_law_right", .glo "law", .free "isinstance", .free "int", .free "bool", .free "range", .free "min", .free "len", .free "max", .free "repr", .free "enumerate"] : List He.Fa) ++ ([.int "MOST_LENGTH" 1000000000000000000000000000000, .int "MOST_SLOTS" 100] : List He.Fa)
abbrev hk : PySem.W.Hook := He.hookD 4 fa fn
def ob (s : PySem.W.SharedT) : He.AlD := He.obsDG 4 fa fn (HandSHeadRun.getT s)
theorem ob_eq (s : PySem.W.SharedT) : ob s = hk.obs s.abs := He.obsDG_eq (HandSHeadRun.getT_eq s)
def loose : List PySem.Str := (["is_int", "is_whole", "SlotError", "InvalidLength", "InvalidSlots", "InvalidNumber", "MOST_LENGTH", "MOST_SLOTS", "require_length", "require_slots", "require_task", "reach_of", "rounds_of", "steps_with", "least_of", "require_number", "slot_gain", "slots_for", "cheapest_slots", "_law_wound", "_law_spin", "_law_choose", "_law_rounds", "_law_least", "_law_great", "_law_right"] : List PySem.Str)
def steps : Nat := 6000
theorem run (w : World) : HandSHeadRun.RunEq R (PySem.W.view R.prog [31]) hk ob steps loose w := by
  intro os
  kernel_rfl
section
variable {K : PySem.W.Frag} {h : Heap} {mg : Str → Option Value}
theorem df (c : He.SaysD fa fn K) (i : Nat) {d : He.DefD} (e : fn[i]? = some d) : Df K d := c.def_ i e
theorem glo (X : K.In h) (G : h.Ns mainGlobals mg) (c : He.SaysD fa fn K) (i : Nat) {x : Str} (e : fa[i]? = some (.glo x)) : mg x = some (.ref (He.ga K x)) := He.glo_ok X G (c.fact i e)
theorem txt (X : K.In h) (G : h.Ns mainGlobals mg) (c : He.SaysD fa fn K) : Txt K mg where
  isinstance := He.free_ok X G (c.fact 21 (f := .free "isinstance") rfl)
  int := He.free_ok X G (c.fact 22 (f := .free "int") rfl)
  bool := He.free_ok X G (c.fact 23 (f := .free "bool") rfl)
  range := He.free_ok X G (c.fact 24 (f := .free "range") rfl)
  min := He.free_ok X G (c.fact 25 (f := .free "min") rfl)
  len := He.free_ok X G (c.fact 26 (f := .free "len") rfl)
  max := He.free_ok X G (c.fact 27 (f := .free "max") rfl)
  repr := He.free_ok X G (c.fact 28 (f := .free "repr") rfl)
  enumerate := He.free_ok X G (c.fact 29 (f := .free "enumerate") rfl)
  MOST_LENGTH := He.int_ok X G (c.fact 30 (f := .int "MOST_LENGTH" 1000000000000000000000000000000) rfl)
  MOST_SLOTS := He.int_ok X G (c.fact 31 (f := .int "MOST_SLOTS" 100) rfl)
end
theorem facts {P : Program} {w : World} {K : PySem.W.Frag} {h : Heap} {mg : Str → Option Value} {f : Addr} (X : K.In h) (G : h.Ns mainGlobals mg) (hfa : mg ("law" : Str) = some (.ref f)) (c : He.SaysD fa fn K) :
    ∃ fd : FuncData, (∀ (s : Shared) (v : Value), BindsTo s fd ⟨[v], []⟩ [("_law_script", v)]) ∧ ∀ base : Heap, K.In base → base.Ns mainGlobals mg → FnG P w K mg base CX0 7 f fd ["_law_script"] (sp_law_k08 K) := by
  have T := txt X G c
  have e := hfa.symm.trans (glo X G c 20 (x := "law") rfl)
  cases e
  obtain ⟨fd, F⟩ := df c 20 (d := mkD "law" 31) rfl
  have b := FunD.bindsA (ps := ["_law_script"]) F fun _ _ _ _ _ _ us hl => match us, hl with | [_], _ => rfl
  refine ⟨fd, fun s v => b s [v] rfl, fun base _ _ => ?_⟩
  have o_is_int := ok_is_int (P := P) (w := w) (base := base) T (df c 0 (d := mkD "is_int" 1) rfl) (glo X G c 0 (x := "is_int") rfl)
  have o_is_whole := ok_is_whole (P := P) (w := w) (base := base) T (df c 1 (d := mkD "is_whole" 2) rfl) (glo X G c 1 (x := "is_whole") rfl) o_is_int
  have o_require_length := ok_require_length (P := P) (w := w) (base := base) T (df c 2 (d := mkD "require_length" 11) rfl) (glo X G c 2 (x := "require_length") rfl) o_is_whole
  have o_require_slots := ok_require_slots (P := P) (w := w) (base := base) T (df c 3 (d := mkD "require_slots" 12) rfl) (glo X G c 3 (x := "require_slots") rfl) o_is_whole
  have o_require_task := ok_require_task (P := P) (w := w) (base := base) T (df c 4 (d := mkD "require_task" 13) rfl) (glo X G c 4 (x := "require_task") rfl) o_require_length o_require_slots
  have o_reach_of := ok_reach_of (P := P) (w := w) (base := base) T (df c 5 (d := mkD "reach_of" 14) rfl) (glo X G c 5 (x := "reach_of") rfl)
  have o_rounds_of := ok_rounds_of (P := P) (w := w) (base := base) T (df c 6 (d := mkD "rounds_of" 15) rfl) (glo X G c 6 (x := "rounds_of") rfl) o_reach_of
  have o_steps_with := ok_steps_with (P := P) (w := w) (base := base) T (df c 7 (d := mkD "steps_with" 17) rfl) (glo X G c 7 (x := "steps_with") rfl) o_reach_of
  have o_least_of := ok_least_of (P := P) (w := w) (base := base) T (df c 8 (d := mkD "least_of" 18) rfl) (glo X G c 8 (x := "least_of") rfl) o_rounds_of o_steps_with
  have o_require_number := ok_require_number (P := P) (w := w) (base := base) T (df c 9 (d := mkD "require_number" 19) rfl) (glo X G c 9 (x := "require_number") rfl) o_is_int
  have o_slot_gain := ok_slot_gain (P := P) (w := w) (base := base) T (df c 10 (d := mkD "slot_gain" 20) rfl) (glo X G c 10 (x := "slot_gain") rfl) o_require_task o_least_of
  have o_slots_for := ok_slots_for (P := P) (w := w) (base := base) T (df c 11 (d := mkD "slots_for" 21) rfl) (glo X G c 11 (x := "slots_for") rfl) o_require_length o_require_number o_least_of
  have o_cheapest_slots := ok_cheapest_slots (P := P) (w := w) (base := base) T (df c 12 (d := mkD "cheapest_slots" 22) rfl) (glo X G c 12 (x := "cheapest_slots") rfl) o_require_length o_require_number o_least_of
  have o_l_wound := ok_l_wound (P := P) (w := w) (base := base) T (df c 13 (d := mkD "_law_wound" 24) rfl) (glo X G c 13 (x := "_law_wound") rfl)
  have o_l_spin := ok_l_spin (P := P) (w := w) (base := base) T (df c 14 (d := mkD "_law_spin" 25) rfl) (glo X G c 14 (x := "_law_spin") rfl)
  have o_l_choose := ok_l_choose (P := P) (w := w) (base := base) T (df c 15 (d := mkD "_law_choose" 26) rfl) (glo X G c 15 (x := "_law_choose") rfl)
  have o_l_rounds := ok_l_rounds (P := P) (w := w) (base := base) T (df c 16 (d := mkD "_law_rounds" 27) rfl) (glo X G c 16 (x := "_law_rounds") rfl) o_l_choose
  have o_l_least := ok_l_least (P := P) (w := w) (base := base) T (df c 17 (d := mkD "_law_least" 28) rfl) (glo X G c 17 (x := "_law_least") rfl) o_l_rounds o_l_choose
  have o_l_great := ok_l_great (P := P) (w := w) (base := base) T (df c 18 (d := mkD "_law_great" 29) rfl) (glo X G c 18 (x := "_law_great") rfl) o_l_spin o_l_choose
  have o_l_right := ok_l_right (P := P) (w := w) (base := base) T (df c 19 (d := mkD "_law_right" 30) rfl) (glo X G c 19 (x := "_law_right") rfl) o_l_least o_l_spin o_slot_gain o_slots_for o_cheapest_slots
  have o_law := ok_law (P := P) (w := w) (base := base) T (df c 20 (d := mkD "law" 31) rfl) (glo X G c 20 (x := "law") rfl) o_l_wound o_l_spin o_l_great o_l_right o_slot_gain o_slots_for o_cheapest_slots
  exact fun_sameG F rfl o_law
end K08
open PySem PySem.W PySem.Calls
open PyProof.Rows hiding St
set_option maxRecDepth 100000 in
set_option maxHeartbeats 0 in
theorem PySem.Challenge.cw_backslots_k08_slots_gains_and_prices_holds : PySem.Challenge.rw_backslots_k08_slots_gains_and_prices.Holds := by
  w_on; o_law
  refine HandSHeadRun.head_any (r := OpenLaw.row PySem.Challenge.rw_backslots_k08_slots_gains_and_prices) (q := view (OpenLaw.row PySem.Challenge.rw_backslots_k08_slots_gains_and_prices).prog [31]) (H := K08.hk) (ob := K08.ob) (M := K08.steps) (loose := K08.loose) (d := HandSHeadRun.topDef (OpenLaw.row PySem.Challenge.rw_backslots_k08_slots_gains_and_prices).prog 31) (kwd := []) K08.ob_eq
    (by kernel_rfl) (fun s => by kernel_rfl) K08.run (by kernel_rfl) (by kernel_rfl) (by kernel_rfl) (by rfl) (by first | assumption | decide +kernel) (by decide +kernel) ⟨rfl, rfl, rfl, rfl, rfl, by decide +kernel⟩ ?hw ?hc
  case hw => w_witness2
  case hc =>
    refine Bs.walk_ofG (l := PySem.Challenge.rw_backslots_k08_slots_gains_and_prices) (n := 63) (k := 7) (x := "_law_script") rfl (by decide) (by kernel_rfl) ⟨rfl, by decide, by decide⟩ ?F
    intro w mg fa h Y G hmg0
    obtain ⟨K, KX, c⟩ := Y
    have hmg : mg ("law" : PySem.Str) = some (.ref fa) := by
      have e : (HandSHeadRun.topDef (OpenLaw.row PySem.Challenge.rw_backslots_k08_slots_gains_and_prices).prog 31).name = ("law" : PySem.Str) := by kernel_rfl
      rw [← e]
      exact hmg0
    obtain ⟨fd, hb, hF⟩ := K08.facts (P := (PySem.Challenge.rw_backslots_k08_slots_gains_and_prices).prog) (w := w) KX G hmg c
    exact ⟨K, fd, Bs.sp_law_k08 K, KX, hb, fun H a ns hl hS => ⟨a, ns, rfl, hS, hl, fun _ => rfl⟩, hF⟩
#print axioms PySem.Challenge.cw_backslots_k08_slots_gains_and_prices_holds


